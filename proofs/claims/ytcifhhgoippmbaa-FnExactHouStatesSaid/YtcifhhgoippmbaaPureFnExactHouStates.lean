/- HouStates of the program answers as the reference, in memory of its own: the law's pure statement; no conditions. -/
import Derived.Test.YtcifhhgoippmbaaAllx0
import Derived.Test.YtcifhhgoippmbaaAllx1
import Derived.Test.YtcifhhgoippmbaaAllx10
import Derived.Test.YtcifhhgoippmbaaAllx11
import Derived.Test.YtcifhhgoippmbaaAllx12
import Derived.Test.YtcifhhgoippmbaaAllx2
import Derived.Test.YtcifhhgoippmbaaAllx3
import Derived.Test.YtcifhhgoippmbaaAllx4
import Derived.Test.YtcifhhgoippmbaaAllx5
import Derived.Test.YtcifhhgoippmbaaAllx6
import Derived.Test.YtcifhhgoippmbaaAllx7
import Derived.Test.YtcifhhgoippmbaaAllx8
import Derived.Test.YtcifhhgoippmbaaAllx9
import Derived.Test.YtcifhhgoippmbaaSaysFnExactHouStates
set_option linter.unusedVariables false
set_option linter.unusedSimpArgs false
namespace Go.Proofs.Ytcifhhgoippmbaa.Pure
open Go.RowKit Go.Proofs.Ytcifhhgoippmbaa.All Go.Proofs.YtcifhhgoippmbaaW.PrintWords Go.Proofs.YtcifhhgoippmbaaW.PrintLast Go.Proofs.YtcifhhgoippmbaaW.PrintMore

theorem wr {x : Int} (h1 : -9223372036854775808 ≤ x) (h2 : x ≤ 9223372036854775807) : wrap64 x = x := by unfold wrap64; omega
theorem toInts_loop (l : List Int) (hl : l.length ≤ 1048576) (d : Nat) : ∀ (k : Nat) (x : List Int) (i : Nat), x.length = l.length → l.length - i = d → i ≤ l.length → (∀ j, j < i → x[j]? = l[j]?) → laws_toIntS.l0 (k + 1 + d) l x i = some l := by
  induction d with
  | zero =>
    intro k x i hx hd hi hM
    simp only [Nat.add_zero, laws_toIntS.l0]
    rw [if_neg (by omega)]
    congr 1
    apply List.ext_getElem? 
    intro j
    by_cases hj : j < l.length
    · exact hM j (by omega)
    · rw [List.getElem?_eq_none (by omega), List.getElem?_eq_none (by omega)]
  | succ d ih =>
    intro k x i hx hd hi hM
    rw [show k + 1 + (d + 1) = (k + 1 + d) + 1 by omega]
    simp only [laws_toIntS.l0]
    rw [if_pos (by omega), if_pos (by omega), if_pos (by omega), wr (x := (i : Int) + 1) (by omega) (by omega)]
    have := ih k (x.set (i : Int).toNat (rd l i)) (i + 1) (by simp [hx]) (by omega) (by omega) (by
      intro j hj
      rw [Int.toNat_natCast, List.getElem?_set]
      by_cases e : i = j
      · subst e
        rw [if_pos rfl, if_pos (by omega)]
        unfold rd
        rw [List.getD_eq_getElem?_getD, Int.toNat_natCast, List.getElem?_eq_getElem (by omega)]
        rfl
      · rw [if_neg e]
        exact hM j (by omega))
    exact this
theorem to_ints (l : List Int) (hl : l.length ≤ 1048576) (k : Nat) (hk : l.length + 1 ≤ k) : laws_toIntS.f k l = some l := by
  unfold laws_toIntS.f
  rw [if_pos (by omega), if_pos (by omega)]
  have := toInts_loop l hl l.length (k - 1 - l.length) (List.replicate ((l.length : Int) : Int).toNat 0) 0 (by simp) (by omega) (by omega) (by omega)
  rwa [show k - 1 - l.length + 1 + l.length = k by omega] at this
theorem eqInts_loop (l : List Int) (hl : l.length ≤ 4611686018427387904) (d : Nat) : ∀ (k : Nat) (i : Int), 0 ≤ i → (l.length : Int) - i = d → laws_eqIntS.l0 (k + 1 + d) l l i = some true := by
  induction d with
  | zero =>
    intro k i h0 hd
    simp only [Nat.add_zero, laws_eqIntS.l0]
    rw [if_neg (by omega)]
  | succ d ih =>
    intro k i h0 hd
    rw [show k + 1 + (d + 1) = (k + 1 + d) + 1 by omega]
    simp only [laws_eqIntS.l0]
    rw [if_pos (show i < (l.length : Int) by omega), if_pos h0, if_pos (show i < (l.length : Int) by omega), if_pos trivial, wr (x := i + 1) (by omega) (by omega)]
    exact ih k (i + 1) (by omega) (by omega)
theorem eqInts_self (l : List Int) (hl : l.length ≤ 4611686018427387904) (k : Nat) (hk : l.length + 1 ≤ k) : laws_eqIntS.f k l l = some true := by
  unfold laws_eqIntS.f
  rw [if_pos rfl]
  have := eqInts_loop l hl l.length (k - 1 - l.length) 0 (by omega) (by omega)
  rwa [show k - 1 - l.length + 1 + l.length = k by omega] at this
def Marked (l : List Int) (m : Int) (i : Nat) : Prop := ∀ j : Nat, j < i → rd l j = m + j
theorem mark_loop (m : Int) (n : Nat) (hn : n ≤ 4611686018427387904) (hm : 0 ≤ m ∧ m ≤ 4611686018427387903) (d : Nat) : ∀ (k : Nat) (l : List Int) (i : Nat), l.length = n → n - i = d → i ≤ n → Marked l m i →
    ∃ l', laws_markIntS.l0 (k + 1 + d) l (m + i) i = some (m + n, l') ∧ l'.length = n ∧ Marked l' m n := by
  induction d with
  | zero =>
    intro k l i hl hd hi hM
    obtain rfl : i = n := by omega
    simp only [Nat.add_zero, laws_markIntS.l0]
    rw [if_neg (by omega)]
    exact ⟨l, rfl, hl, hM⟩
  | succ d ih =>
    intro k l i hl hd hi hM
    rw [show k + 1 + (d + 1) = (k + 1 + d) + 1 by omega]
    simp only [laws_markIntS.l0]
    rw [if_pos (by omega), if_pos (by omega), wr (x := m + i + 1) (by omega) (by omega), wr (x := (i : Int) + 1) (by omega) (by omega)]
    have := ih k (l.set (i : Int).toNat (m + i)) (i + 1) (by simp [hl]) (by omega) (by omega) (by
      intro j hj
      unfold rd
      rw [List.getD_eq_getElem?_getD, Int.toNat_natCast, Int.toNat_natCast, List.getElem?_set]
      by_cases e : i = j
      · subst e
        simp [show i < l.length by omega]
      · rw [if_neg e]
        have h2 := hM j (by omega)
        unfold rd at h2
        rw [List.getD_eq_getElem?_getD, Int.toNat_natCast] at h2
        exact h2)
    rw [show m + ((i + 1 : Nat) : Int) = m + i + 1 by omega, show ((i + 1 : Nat) : Int) = (i : Int) + 1 by omega] at this
    exact this
theorem mark_ints (l : List Int) (m : Int) (hn : l.length ≤ 4611686018427387904) (hm : 0 ≤ m ∧ m ≤ 4611686018427387903) : ∃ l', l'.length = l.length ∧ Marked l' m l.length ∧ ∀ k, l.length + 1 ≤ k → laws_markIntS.f k l m = some (m + l.length, l') := by
  obtain ⟨l', e, hl, hM⟩ := mark_loop m l.length hn hm l.length 0 l 0 rfl (by omega) (by omega) (fun j hj => absurd hj (by omega))
  refine ⟨l', hl, hM, fun k hk => ?_⟩
  obtain ⟨l2, e2, hl2, hM2⟩ := mark_loop m l.length hn hm l.length (k - 1 - l.length) l 0 rfl (by omega) (by omega) (fun j hj => absurd hj (by omega))
  have same : l2 = l' := by
    apply List.ext_getElem (by omega)
    intro j h1 h2
    have a := hM2 j (by omega)
    have b := hM j (by omega)
    unfold rd at a b
    rw [List.getD_eq_getElem?_getD, Int.toNat_natCast, List.getElem?_eq_getElem (by omega)] at a b
    simp only [Option.getD_some] at a b
    omega
  subst same
  unfold laws_markIntS.f
  rw [show k - 1 - l.length + 1 + l.length = k by omega] at e2
  simpa using e2
def convD (s : S95) : S85 := ⟨s.f0, s.f1⟩
def convTst (s : S100) : S90 := ⟨⟨s.f0.f0, ⟨s.f0.f1.f0, s.f0.f1.f1⟩, ⟨s.f0.f2.f0, s.f0.f2.f1⟩, s.f0.f3⟩, s.f1, ⟨s.f2.f0, s.f2.f1⟩, s.f3, s.f4.map convD⟩
def convSig (s : S104) : S93 := ⟨s.f0, s.f1, s.f2⟩
theorem rdTst_mem (l : List S100) (i : Int) (h0 : 0 ≤ i) (h : i < l.length) : rd_T100 l i ∈ l := by
  unfold rd_T100
  rw [List.getD_eq_getElem?_getD, List.getElem?_eq_getElem (by omega)]
  exact List.getElem_mem _
def tsz (l : List S100) : Nat → Int → Int → Int
  | 0, _, b => b
  | n + 1, i, b => if b - ((rd_T100 l i).f4.length : Int) < 0 then -1 else tsz l n (i + 1) (b - ((rd_T100 l i).f4.length : Int))
theorem tsz_facts (l : List S100) (n : Nat) : ∀ (i b : Int), 0 ≤ b → b ≤ 1048576 → tsz l n i b = -1 ∨ (0 ≤ tsz l n i b ∧ tsz l n i b ≤ 1048576 ∧ ∀ j, i ≤ j → j < i + n → (rd_T100 l j).f4.length ≤ 1048576) := by
  induction n with
  | zero =>
    intro i b h0 h1
    exact Or.inr ⟨h0, h1, fun j a c => by omega⟩
  | succ n ih =>
    intro i b h0 h1
    simp only [tsz]
    by_cases hn : b - ((rd_T100 l i).f4.length : Int) < 0
    · rw [if_pos hn]; exact Or.inl rfl
    · rw [if_neg hn]
      rcases ih (i + 1) (b - ((rd_T100 l i).f4.length : Int)) (by omega) (by omega) with e | ⟨e1, e2, g⟩
      · exact Or.inl e
      · refine Or.inr ⟨e1, e2, fun j a c => ?_⟩
        by_cases q : j = i
        · subst q; omega
        · exact g j (by omega) (by omega)
theorem szTests_loop (l : List S100) (hl : l.length ≤ 1048576) (hG : ∀ z ∈ l, z.f4.length ≤ 9223372036854775807) (d : Nat) : ∀ (k : Nat) (i b : Int), 0 ≤ i → (l.length : Int) - i = d → 0 ≤ b → b ≤ 1048576 →
    laws_szTstTestS.l0 (k + 1 + d) l b i = some (tsz l d i b) := by
  induction d with
  | zero =>
    intro k i b h0 hd hb0 hb
    simp only [Nat.add_zero, laws_szTstTestS.l0, tsz]
    rw [if_neg (by omega)]
  | succ d ih =>
    intro k i b h0 hd hb0 hb
    have hm := hG _ (rdTst_mem l i h0 (by omega))
    rw [show k + 1 + (d + 1) = (k + 1 + d) + 1 by omega]
    simp only [laws_szTstTestS.l0, laws_szTstTest.f, laws_szDecDecS.f, tsz]
    rw [if_pos (by omega), if_pos h0, wr (x := b - ((rd_T100 l i).f4.length : Int)) (by omega) (by omega), wr (x := i + 1) (by omega) (by omega)]
    by_cases hn : b - ((rd_T100 l i).f4.length : Int) < 0
    · rw [if_pos hn, if_pos hn]
      simp
    · rw [if_neg hn, if_neg hn]
      simp only [Option.bind_some]
      rw [if_neg hn]
      simp only [Option.bind_some]
      rw [if_neg hn]
      exact ih k (i + 1) _ (by omega) (by omega) (by omega) (by omega)
def Fits (tests : List S100) (sigs : List S104) (papers : List Bool) : Prop :=
  tests.length ≤ 1048576 ∧ sigs.length ≤ 1048576 ∧ papers.length ≤ 1048576 ∧ ∀ j : Int, 0 ≤ j → j < tests.length → (rd_T100 tests j).f4.length ≤ 1048576
theorem to_decs_loop (l : List S95) (hl : l.length ≤ 1048576) (d : Nat) : ∀ (k : Nat) (x : List S85) (i : Nat), x.length = l.length → l.length - i = d → i ≤ l.length → (∀ j, j < i → x[j]? = (l.map convD)[j]?) → laws_toDecDecS.l0 (k + 1 + d) l x i = some (l.map convD) := by
  induction d with
  | zero =>
    intro k x i hx hd hi hM
    simp only [Nat.add_zero, laws_toDecDecS.l0]
    rw [if_neg (by omega)]
    congr 1
    apply List.ext_getElem?
    intro j
    by_cases hj : j < l.length
    · exact hM j (by omega)
    · rw [List.getElem?_eq_none (by omega), List.getElem?_eq_none (by simp; omega)]
  | succ d ih =>
    intro k x i hx hd hi hM
    rw [show k + 1 + (d + 1) = (k + 1 + d) + 1 by omega]
    simp only [laws_toDecDecS.l0, laws_toDecDec.f, Option.bind_some]
    rw [if_pos (by omega), if_pos (by omega), if_pos (by omega), wr (x := (i : Int) + 1) (by omega) (by omega)]
    have := ih k (x.set (i : Int).toNat (convD (rd_T95 l i))) (i + 1) (by simp [hx]) (by omega) (by omega) (by
      intro j hj
      rw [Int.toNat_natCast, List.getElem?_set]
      by_cases e : i = j
      · subst e
        rw [if_pos rfl, if_pos (by omega), List.getElem?_map, List.getElem?_eq_getElem (by omega)]
        unfold rd_T95
        rw [List.getD_eq_getElem?_getD, Int.toNat_natCast, List.getElem?_eq_getElem (by omega)]
        rfl
      · rw [if_neg e]
        exact hM j (by omega))
    exact this
theorem to_decs (l : List S95) (hl : l.length ≤ 1048576) (k : Nat) (hk : l.length + 1 ≤ k) : laws_toDecDecS.f k l = some (l.map convD) := by
  unfold laws_toDecDecS.f
  rw [if_pos (by omega), if_pos (by omega)]
  have := to_decs_loop l hl l.length (k - 1 - l.length) (List.replicate ((l.length : Int) : Int).toNat z85) 0 (by simp) (by omega) (by omega) (by omega)
  rwa [show k - 1 - l.length + 1 + l.length = k by omega] at this
theorem to_sigs_loop (l : List S104) (hl : l.length ≤ 1048576) (d : Nat) : ∀ (k : Nat) (x : List S93) (i : Nat), x.length = l.length → l.length - i = d → i ≤ l.length → (∀ j, j < i → x[j]? = (l.map convSig)[j]?) → laws_toBatSigS.l0 (k + 1 + d) l x i = some (l.map convSig) := by
  induction d with
  | zero =>
    intro k x i hx hd hi hM
    simp only [Nat.add_zero, laws_toBatSigS.l0]
    rw [if_neg (by omega)]
    congr 1
    apply List.ext_getElem?
    intro j
    by_cases hj : j < l.length
    · exact hM j (by omega)
    · rw [List.getElem?_eq_none (by omega), List.getElem?_eq_none (by simp; omega)]
  | succ d ih =>
    intro k x i hx hd hi hM
    rw [show k + 1 + (d + 1) = (k + 1 + d) + 1 by omega]
    simp only [laws_toBatSigS.l0, laws_toBatSig.f, Option.bind_some]
    rw [if_pos (by omega), if_pos (by omega), if_pos (by omega), wr (x := (i : Int) + 1) (by omega) (by omega)]
    have := ih k (x.set (i : Int).toNat (convSig (rd_T104 l i))) (i + 1) (by simp [hx]) (by omega) (by omega) (by
      intro j hj
      rw [Int.toNat_natCast, List.getElem?_set]
      by_cases e : i = j
      · subst e
        rw [if_pos rfl, if_pos (by omega), List.getElem?_map, List.getElem?_eq_getElem (by omega)]
        unfold rd_T104
        rw [List.getD_eq_getElem?_getD, Int.toNat_natCast, List.getElem?_eq_getElem (by omega)]
        rfl
      · rw [if_neg e]
        exact hM j (by omega))
    exact this
theorem to_sigs (l : List S104) (hl : l.length ≤ 1048576) (k : Nat) (hk : l.length + 1 ≤ k) : laws_toBatSigS.f k l = some (l.map convSig) := by
  unfold laws_toBatSigS.f
  rw [if_pos (by omega), if_pos (by omega)]
  have := to_sigs_loop l hl l.length (k - 1 - l.length) (List.replicate ((l.length : Int) : Int).toNat z93) 0 (by simp) (by omega) (by omega) (by omega)
  rwa [show k - 1 - l.length + 1 + l.length = k by omega] at this
theorem to_bools_loop (l : List Bool) (hl : l.length ≤ 1048576) (d : Nat) : ∀ (k : Nat) (x : List Bool) (i : Nat), x.length = l.length → l.length - i = d → i ≤ l.length → (∀ j, j < i → x[j]? = (l.map id)[j]?) → laws_toBoolS.l0 (k + 1 + d) l x i = some (l.map id) := by
  induction d with
  | zero =>
    intro k x i hx hd hi hM
    simp only [Nat.add_zero, laws_toBoolS.l0]
    rw [if_neg (by omega)]
    congr 1
    apply List.ext_getElem?
    intro j
    by_cases hj : j < l.length
    · exact hM j (by omega)
    · rw [List.getElem?_eq_none (by omega), List.getElem?_eq_none (by simp; omega)]
  | succ d ih =>
    intro k x i hx hd hi hM
    rw [show k + 1 + (d + 1) = (k + 1 + d) + 1 by omega]
    simp only [laws_toBoolS.l0, Option.bind_some]
    rw [if_pos (by omega), if_pos (by omega), if_pos (by omega), wr (x := (i : Int) + 1) (by omega) (by omega)]
    have := ih k (x.set (i : Int).toNat (id (rdOf false l i))) (i + 1) (by simp [hx]) (by omega) (by omega) (by
      intro j hj
      rw [Int.toNat_natCast, List.getElem?_set]
      by_cases e : i = j
      · subst e
        rw [if_pos rfl, if_pos (by omega), List.getElem?_map, List.getElem?_eq_getElem (by omega)]
        unfold rdOf
        rw [List.getD_eq_getElem?_getD, Int.toNat_natCast, List.getElem?_eq_getElem (by omega)]
        rfl
      · rw [if_neg e]
        exact hM j (by omega))
    exact this
theorem to_bools (l : List Bool) (hl : l.length ≤ 1048576) (k : Nat) (hk : l.length + 1 ≤ k) : laws_toBoolS.f k l = some (l.map id) := by
  unfold laws_toBoolS.f
  rw [if_pos (by omega), if_pos (by omega)]
  have := to_bools_loop l hl l.length (k - 1 - l.length) (List.replicate ((l.length : Int) : Int).toNat false) 0 (by simp) (by omega) (by omega) (by omega)
  rwa [show k - 1 - l.length + 1 + l.length = k by omega] at this
theorem to_tests_loop (l : List S100) (hl : l.length ≤ 1048576) (hf : ∀ j : Int, 0 ≤ j → j < l.length → (rd_T100 l j).f4.length ≤ 1048576) (d : Nat) : ∀ (k : Nat) (x : List S90) (i : Nat), 1048577 ≤ k → x.length = l.length → l.length - i = d → i ≤ l.length → (∀ j, j < i → x[j]? = (l.map convTst)[j]?) → laws_toTstTestS.l0 (k + 1 + d) l x i = some (l.map convTst) := by
  induction d with
  | zero =>
    intro k x i hk hx hd hi hM
    simp only [Nat.add_zero, laws_toTstTestS.l0]
    rw [if_neg (by omega)]
    congr 1
    apply List.ext_getElem?
    intro j
    by_cases hj : j < l.length
    · exact hM j (by omega)
    · rw [List.getElem?_eq_none (by omega), List.getElem?_eq_none (by simp; omega)]
  | succ d ih =>
    intro k x i hk hx hd hi hM
    rw [show k + 1 + (d + 1) = (k + 1 + d) + 1 by omega]
    simp only [laws_toTstTestS.l0, laws_toTstTest.f, laws_toSpcTest.f, laws_toDecDec.f, Option.bind_some]
    have hq := hf i (by omega) (by omega)
    rw [to_decs _ hq (k + 1 + d) (by omega)]
    simp only [Option.bind_some]
    rw [if_pos (by omega), if_pos (by omega), if_pos (by omega), wr (x := (i : Int) + 1) (by omega) (by omega)]
    have := ih k (x.set (i : Int).toNat (convTst (rd_T100 l i))) (i + 1) hk (by simp [hx]) (by omega) (by omega) (by
      intro j hj
      rw [Int.toNat_natCast, List.getElem?_set]
      by_cases e : i = j
      · subst e
        rw [if_pos rfl, if_pos (by omega), List.getElem?_map, List.getElem?_eq_getElem (by omega)]
        unfold rd_T100
        rw [List.getD_eq_getElem?_getD, Int.toNat_natCast, List.getElem?_eq_getElem (by omega)]
        rfl
      · rw [if_neg e]
        exact hM j (by omega))
    exact this
theorem to_tests (l : List S100) (hl : l.length ≤ 1048576) (hf : ∀ j : Int, 0 ≤ j → j < l.length → (rd_T100 l j).f4.length ≤ 1048576) (k : Nat) (hk : l.length + 1048578 ≤ k) : laws_toTstTestS.f k l = some (l.map convTst) := by
  unfold laws_toTstTestS.f
  rw [if_pos (by omega), if_pos (by omega)]
  have := to_tests_loop l hl hf l.length (k - 1 - l.length) (List.replicate ((l.length : Int) : Int).toNat z90) 0 (by omega) (by simp) (by omega) (by omega) (by omega)
  rwa [show k - 1 - l.length + 1 + l.length = k by omega] at this
theorem eq_decs_loop (l : List S85) (hl : l.length ≤ 1048576) (d : Nat) : ∀ (k : Nat) (i : Int), 0 ≤ i → (l.length : Int) - i = d → laws_eqDecDecS.l0 (k + 1 + d) l l i = some true := by
  induction d with
  | zero =>
    intro k i h0 hd
    simp only [Nat.add_zero, laws_eqDecDecS.l0]
    rw [if_neg (by omega)]
  | succ d ih =>
    intro k i h0 hd
    rw [show k + 1 + (d + 1) = (k + 1 + d) + 1 by omega]
    simp only [laws_eqDecDecS.l0, laws_eqDecDec.f, if_true, Option.bind_some]
    rw [if_pos (show i < (l.length : Int) by omega), if_pos h0, if_pos (show i < (l.length : Int) by omega), wr (x := i + 1) (by omega) (by omega)]
    exact ih k (i + 1) (by omega) (by omega)
theorem eq_decs (l : List S85) (hl : l.length ≤ 1048576) (k : Nat) (hk : l.length + 1 ≤ k) : laws_eqDecDecS.f k l l = some true := by
  unfold laws_eqDecDecS.f
  rw [if_pos rfl]
  have := eq_decs_loop l hl l.length (k - 1 - l.length) 0 (by omega) (by omega)
  rwa [show k - 1 - l.length + 1 + l.length = k by omega] at this
theorem eq_sigs_loop (l : List S93) (hl : l.length ≤ 1048576) (d : Nat) : ∀ (k : Nat) (i : Int), 0 ≤ i → (l.length : Int) - i = d → laws_eqBatSigS.l0 (k + 1 + d) l l i = some true := by
  induction d with
  | zero =>
    intro k i h0 hd
    simp only [Nat.add_zero, laws_eqBatSigS.l0]
    rw [if_neg (by omega)]
  | succ d ih =>
    intro k i h0 hd
    rw [show k + 1 + (d + 1) = (k + 1 + d) + 1 by omega]
    simp only [laws_eqBatSigS.l0, laws_eqBatSig.f, if_true, Option.bind_some]
    rw [if_pos (show i < (l.length : Int) by omega), if_pos h0, if_pos (show i < (l.length : Int) by omega), wr (x := i + 1) (by omega) (by omega)]
    exact ih k (i + 1) (by omega) (by omega)
theorem eq_sigs (l : List S93) (hl : l.length ≤ 1048576) (k : Nat) (hk : l.length + 1 ≤ k) : laws_eqBatSigS.f k l l = some true := by
  unfold laws_eqBatSigS.f
  rw [if_pos rfl]
  have := eq_sigs_loop l hl l.length (k - 1 - l.length) 0 (by omega) (by omega)
  rwa [show k - 1 - l.length + 1 + l.length = k by omega] at this
theorem eq_bools_loop (l : List Bool) (hl : l.length ≤ 1048576) (d : Nat) : ∀ (k : Nat) (i : Int), 0 ≤ i → (l.length : Int) - i = d → laws_eqBoolS.l0 (k + 1 + d) l l i = some true := by
  induction d with
  | zero =>
    intro k i h0 hd
    simp only [Nat.add_zero, laws_eqBoolS.l0]
    rw [if_neg (by omega)]
  | succ d ih =>
    intro k i h0 hd
    rw [show k + 1 + (d + 1) = (k + 1 + d) + 1 by omega]
    simp only [laws_eqBoolS.l0]
    rw [if_pos (show i < (l.length : Int) by omega), if_pos h0, if_pos (show i < (l.length : Int) by omega), if_neg (by simp), wr (x := i + 1) (by omega) (by omega)]
    exact ih k (i + 1) (by omega) (by omega)
theorem eq_bools (l : List Bool) (hl : l.length ≤ 1048576) (k : Nat) (hk : l.length + 1 ≤ k) : laws_eqBoolS.f k l l = some true := by
  unfold laws_eqBoolS.f
  rw [if_pos rfl]
  have := eq_bools_loop l hl l.length (k - 1 - l.length) 0 (by omega) (by omega)
  rwa [show k - 1 - l.length + 1 + l.length = k by omega] at this
theorem eq_tests_loop (l : List S90) (hl : l.length ≤ 1048576) (hf : ∀ j : Int, 0 ≤ j → j < l.length → (rd_T90 l j).f4.length ≤ 1048576) (d : Nat) : ∀ (k : Nat) (i : Int), 1048577 ≤ k → 0 ≤ i → (l.length : Int) - i = d → laws_eqTstTestS.l0 (k + 1 + d) l l i = some true := by
  induction d with
  | zero =>
    intro k i hk h0 hd
    simp only [Nat.add_zero, laws_eqTstTestS.l0]
    rw [if_neg (by omega)]
  | succ d ih =>
    intro k i hk h0 hd
    rw [show k + 1 + (d + 1) = (k + 1 + d) + 1 by omega]
    have hq := hf i h0 (by omega)
    simp only [laws_eqTstTestS.l0, laws_eqTstTest.f, laws_eqSpcTest.f, laws_eqDecDec.f, if_true, Option.bind_some]
    rw [eq_decs _ hq (k + 1 + d) (by omega)]
    simp only [if_true, Option.bind_some]
    rw [if_pos (show i < (l.length : Int) by omega), if_pos h0, if_pos (show i < (l.length : Int) by omega), wr (x := i + 1) (by omega) (by omega)]
    exact ih k (i + 1) hk (by omega) (by omega)
theorem eq_tests (l : List S90) (hl : l.length ≤ 1048576) (hf : ∀ j : Int, 0 ≤ j → j < l.length → (rd_T90 l j).f4.length ≤ 1048576) (k : Nat) (hk : l.length + 1048578 ≤ k) : laws_eqTstTestS.f k l l = some true := by
  unfold laws_eqTstTestS.f
  rw [if_pos rfl]
  have := eq_tests_loop l hl hf l.length (k - 1 - l.length) 0 (by omega) (by omega) (by omega)
  rwa [show k - 1 - l.length + 1 + l.length = k by omega] at this
theorem conv_rd (l : List S100) (j : Int) (h0 : 0 ≤ j) (h : j < l.length) : rd_T90 (l.map convTst) j = convTst (rd_T100 l j) := by
  unfold rd_T90 rd_T100
  rw [List.getD_eq_getElem?_getD, List.getD_eq_getElem?_getD, List.getElem?_map, List.getElem?_eq_getElem (by omega)]
  rfl
theorem conv_fits (l : List S100) (h : ∀ j : Int, 0 ≤ j → j < l.length → (rd_T100 l j).f4.length ≤ 1048576) : ∀ j : Int, 0 ≤ j → j < (l.map convTst).length → (rd_T90 (l.map convTst) j).f4.length ≤ 1048576 := by
  intro j h0 h1
  rw [List.length_map] at h1
  rw [conv_rd l j h0 h1]
  unfold convTst
  rw [List.length_map]
  exact h j h0 h1
theorem to_batch (a b : Int) (T : List S100) (c : Int) (G : List S104) (B : List Bool) (hF : Fits T G B) (k : Nat) (hk : 2097154 ≤ k) : laws_toBatBatch.f k a b T c G B = some (a, b, T.map convTst, c, G.map convSig, B.map id) := by
  obtain ⟨h1, h2, h3, h4⟩ := hF
  unfold laws_toBatBatch.f
  rw [to_tests T h1 h4 k (by omega), to_sigs G h2 k (by omega), to_bools B h3 k (by omega)]
  rfl
theorem eq_batch (a b : Int) (T : List S90) (c : Int) (G : List S93) (B : List Bool) (h1 : T.length ≤ 1048576) (h2 : G.length ≤ 1048576) (h3 : B.length ≤ 1048576) (h4 : ∀ j : Int, 0 ≤ j → j < T.length → (rd_T90 T j).f4.length ≤ 1048576) (k : Nat) (hk : 2097154 ≤ k) : laws_eqBatBatch.f k a b T c G B a b T c G B = some true := by
  unfold laws_eqBatBatch.f
  rw [eq_tests T h1 h4 k (by omega), eq_sigs G h2 k (by omega), eq_bools B h3 k (by omega)]
  simp only [Option.bind_some, if_true]
theorem tsz_le (l : List S100) (n : Nat) : ∀ (i b : Int), 0 ≤ b → tsz l n i b ≤ b := by
  induction n with
  | zero => intro i b _; exact Int.le_refl _
  | succ n ih =>
    intro i b h
    simp only [tsz]
    split
    · omega
    · have := ih (i + 1) (b - ((rd_T100 l i).f4.length : Int)) (by omega)
      omega
theorem sz_batchG (b0 : Int) (hb0 : 0 ≤ b0 ∧ b0 ≤ 1048576) (a b : Int) (tests : List S100) (c : Int) (sigs : List S104) (papers : List Bool) (h1 : tests.length ≤ 9223372036854775807) (hG : ∀ z ∈ tests, z.f4.length ≤ 9223372036854775807) (h2 : sigs.length ≤ 9223372036854775807) (h3 : papers.length ≤ 9223372036854775807) :
    ∃ r : Int, (r = -1 ∨ ((0 ≤ r ∧ r ≤ b0) ∧ Fits tests sigs papers)) ∧ ∀ k, 1048578 ≤ k → laws_szBatBatch.f k a b tests c sigs papers b0 = some r := by
  by_cases t1 : b0 - (tests.length : Int) < 0
  · refine ⟨-1, Or.inl rfl, fun k _ => ?_⟩
    unfold laws_szBatBatch.f laws_szTstTestS.f
    rw [wr (x := b0 - (tests.length : Int)) (by omega) (by omega), if_pos t1]
    simp
  · have e : ∀ k, 1048578 ≤ k → laws_szTstTestS.f k tests b0 = some (tsz tests tests.length 0 (b0 - (tests.length : Int))) := by
      intro k hk
      have := szTests_loop tests (by omega) hG tests.length (k - 1 - tests.length) 0 (b0 - (tests.length : Int)) (by omega) (by omega) (by omega) (by omega)
      rw [show k - 1 - tests.length + 1 + tests.length = k by omega] at this
      unfold laws_szTstTestS.f
      rw [wr (x := b0 - (tests.length : Int)) (by omega) (by omega), if_neg t1]
      exact this
    have f := tsz_facts tests tests.length 0 (b0 - (tests.length : Int)) (by omega) (by omega)
    have f' := tsz_le tests tests.length 0 (b0 - (tests.length : Int)) (by omega)
    generalize tsz tests tests.length 0 (b0 - (tests.length : Int)) = u at *
    rcases f with f | ⟨f1, f2, g⟩
    · refine ⟨-1, Or.inl rfl, fun k hk => ?_⟩
      unfold laws_szBatBatch.f
      rw [e k hk, f]
      simp
    · by_cases t2 : u - (sigs.length : Int) < 0
      · refine ⟨-1, Or.inl rfl, fun k hk => ?_⟩
        unfold laws_szBatBatch.f laws_szBatSigS.f
        rw [e k hk]
        simp only [Option.bind_some]
        rw [if_neg (show ¬ u < 0 by omega), wr (x := u - (sigs.length : Int)) (by omega) (by omega), if_pos t2]
        simp only [Option.bind_some]
        rw [if_pos (by omega)]
      · by_cases t3 : u - (sigs.length : Int) - (papers.length : Int) < 0
        · refine ⟨-1, Or.inl rfl, fun k hk => ?_⟩
          unfold laws_szBatBatch.f laws_szBatSigS.f laws_szBoolS.f
          rw [e k hk]
          simp only [Option.bind_some]
          rw [if_neg (show ¬ u < 0 by omega), wr (x := u - (sigs.length : Int)) (by omega) (by omega), if_neg t2]
          simp only [Option.bind_some]
          rw [if_neg t2, wr (x := u - (sigs.length : Int) - (papers.length : Int)) (by omega) (by omega), if_pos t3]
          simp only [Option.bind_some]
          rw [if_pos (by omega)]
        · refine ⟨u - (sigs.length : Int) - (papers.length : Int), Or.inr ⟨⟨by omega, by omega⟩, by omega, by omega, by omega, fun j a c => g j a (by omega)⟩, fun k hk => ?_⟩
          unfold laws_szBatBatch.f laws_szBatSigS.f laws_szBoolS.f
          rw [e k hk]
          simp only [Option.bind_some]
          rw [if_neg (show ¬ u < 0 by omega), wr (x := u - (sigs.length : Int)) (by omega) (by omega), if_neg t2]
          simp only [Option.bind_some]
          rw [if_neg t2, wr (x := u - (sigs.length : Int) - (papers.length : Int)) (by omega) (by omega), if_neg t3]
          simp only [Option.bind_some]
          rw [if_neg t3]
theorem rdSpec_mem (l : List S56) (i : Int) (h0 : 0 ≤ i) (h : i < l.length) : rd_T56 l i ∈ l := by
  unfold rd_T56
  rw [List.getD_eq_getElem?_getD, List.getElem?_eq_getElem (by omega)]
  exact List.getElem_mem _
theorem rdBat_mem (l : List S61) (i : Int) (h0 : 0 ≤ i) (h : i < l.length) : rd_T61 l i ∈ l := by
  unfold rd_T61
  rw [List.getD_eq_getElem?_getD, List.getElem?_eq_getElem (by omega)]
  exact List.getElem_mem _
theorem szSpecs_loop (l : List S56) (hl : l.length ≤ 1048576) (hG : ∀ z ∈ l, z.f0.length ≤ 9223372036854775807) (d : Nat) : ∀ (i b : Int), 0 ≤ i → (l.length : Int) - i = d → 0 ≤ b → b ≤ 1048576 →
    ∃ r : Int, (r = -1 ∨ (0 ≤ r ∧ r ≤ b ∧ ∀ j, i ≤ j → j < l.length → (rd_T56 l j).f0.length ≤ 1048576)) ∧ ∀ k, laws_szSpcSpecS.l0 (k + 1 + d) l b i = some r := by
  induction d with
  | zero =>
    intro i b h0 hd hb0 hb
    refine ⟨b, Or.inr ⟨hb0, Int.le_refl _, fun j a c => by omega⟩, fun k => ?_⟩
    simp only [Nat.add_zero, laws_szSpcSpecS.l0]
    rw [if_neg (by omega)]
  | succ d ih =>
    intro i b h0 hd hb0 hb
    have hm := hG _ (rdSpec_mem l i h0 (by omega))
    by_cases hn : b - ((rd_T56 l i).f0.length : Int) < 0
    · refine ⟨-1, Or.inl rfl, fun k => ?_⟩
      rw [show k + 1 + (d + 1) = (k + 1 + d) + 1 by omega]
      simp only [laws_szSpcSpecS.l0, laws_szSpcSpec.f, laws_szSpcTestS.f]
      rw [if_pos (by omega), if_pos h0, wr (x := b - ((rd_T56 l i).f0.length : Int)) (by omega) (by omega), if_pos hn]
      simp
    · obtain ⟨r, hr, e⟩ := ih (i + 1) (b - ((rd_T56 l i).f0.length : Int)) (by omega) (by omega) (by omega) (by omega)
      refine ⟨r, hr.imp id (fun h => ⟨h.1, by omega, fun j a c => ?_⟩), fun k => ?_⟩
      · by_cases q : j = i
        · subst q; omega
        · exact h.2.2 j (by omega) c
      · rw [show k + 1 + (d + 1) = (k + 1 + d) + 1 by omega]
        simp only [laws_szSpcSpecS.l0, laws_szSpcSpec.f, laws_szSpcTestS.f]
        rw [if_pos (by omega), if_pos h0, wr (x := b - ((rd_T56 l i).f0.length : Int)) (by omega) (by omega), wr (x := i + 1) (by omega) (by omega), if_neg hn]
        simp only [Option.bind_some]
        rw [if_neg hn]
        simp only [Option.bind_some]
        rw [if_neg hn]
        exact e k
theorem szBats_loop (l : List S61) (hl : l.length ≤ 1048576) (hG : ∀ z ∈ l, z.f2.length ≤ 9223372036854775807 ∧ (∀ y ∈ z.f2, y.f4.length ≤ 9223372036854775807) ∧ z.f4.length ≤ 9223372036854775807 ∧ z.f5.length ≤ 9223372036854775807) (d : Nat) : ∀ (i b : Int), 0 ≤ i → (l.length : Int) - i = d → 0 ≤ b → b ≤ 1048576 →
    ∃ r : Int, (r = -1 ∨ (0 ≤ r ∧ r ≤ b ∧ ∀ j, i ≤ j → j < l.length → Fits (rd_T61 l j).f2 (rd_T61 l j).f4 (rd_T61 l j).f5)) ∧ ∀ k, 1048578 ≤ k → laws_szBatBatchS.l0 (k + 1 + d) l b i = some r := by
  induction d with
  | zero =>
    intro i b h0 hd hb0 hb
    refine ⟨b, Or.inr ⟨hb0, Int.le_refl _, fun j a c => by omega⟩, fun k _ => ?_⟩
    simp only [Nat.add_zero, laws_szBatBatchS.l0]
    rw [if_neg (by omega)]
  | succ d ih =>
    intro i b h0 hd hb0 hb
    have hm := hG _ (rdBat_mem l i h0 (by omega))
    obtain ⟨s, hs, es⟩ := sz_batchG b ⟨hb0, hb⟩ (rd_T61 l i).f0 (rd_T61 l i).f1 (rd_T61 l i).f2 (rd_T61 l i).f3 (rd_T61 l i).f4 (rd_T61 l i).f5 hm.1 hm.2.1 hm.2.2.1 hm.2.2.2
    rcases hs with rfl | ⟨hs0, hF⟩
    · refine ⟨-1, Or.inl rfl, fun k hk => ?_⟩
      rw [show k + 1 + (d + 1) = (k + 1 + d) + 1 by omega]
      simp only [laws_szBatBatchS.l0]
      rw [if_pos (by omega), if_pos h0, es (k + 1 + d) (by omega)]
      simp
    · obtain ⟨r, hr, e⟩ := ih (i + 1) s (by omega) (by omega) (by omega) (by omega)
      refine ⟨r, hr.imp id (fun h => ⟨h.1, by omega, fun j a c => ?_⟩), fun k hk => ?_⟩
      · by_cases q : j = i
        · subst q; exact hF
        · exact h.2.2 j (by omega) c
      · rw [show k + 1 + (d + 1) = (k + 1 + d) + 1 by omega]
        simp only [laws_szBatBatchS.l0]
        rw [if_pos (by omega), if_pos h0, es (k + 1 + d) (by omega), wr (x := i + 1) (by omega) (by omega)]
        simp only [Option.bind_some]
        rw [if_neg (by omega)]
        exact e k hk
def HFits (l1 : List S56) (l2 : List S61) : Prop :=
  l1.length ≤ 1048576 ∧ (∀ j : Int, 0 ≤ j → j < l1.length → (rd_T56 l1 j).f0.length ≤ 1048576) ∧ l2.length ≤ 1048576 ∧ ∀ j : Int, 0 ≤ j → j < l2.length → Fits (rd_T61 l2 j).f2 (rd_T61 l2 j).f4 (rd_T61 l2 j).f5
theorem sz_house (l0 : List Int) (l1 : List S56) (l2 : List S61) (h0 : l0.length ≤ 9223372036854775807) (h1 : l1.length ≤ 9223372036854775807) (hG1 : ∀ z ∈ l1, z.f0.length ≤ 9223372036854775807) (h2 : l2.length ≤ 9223372036854775807) (hG2 : ∀ z ∈ l2, z.f2.length ≤ 9223372036854775807 ∧ (∀ y ∈ z.f2, y.f4.length ≤ 9223372036854775807) ∧ z.f4.length ≤ 9223372036854775807 ∧ z.f5.length ≤ 9223372036854775807) :
    ∃ r : Int, (r = -1 ∨ (0 ≤ r ∧ l0.length ≤ 1048576 ∧ HFits l1 l2)) ∧ ∀ k, 2097156 ≤ k → laws_szHouHouse.f k l0 l1 l2 1048576 = some r := by
  by_cases t0 : 1048576 - (l0.length : Int) < 0
  · refine ⟨-1, Or.inl rfl, fun k _ => ?_⟩
    unfold laws_szHouHouse.f laws_szIntS.f
    rw [wr (x := 1048576 - (l0.length : Int)) (by omega) (by omega), if_pos t0]
    rfl
  have e0 : laws_szIntS.f l0 1048576 = some (1048576 - (l0.length : Int)) := by
    unfold laws_szIntS.f
    rw [wr (x := 1048576 - (l0.length : Int)) (by omega) (by omega), if_neg t0]
  generalize hu : 1048576 - (l0.length : Int) = u at *
  by_cases t1 : u - (l1.length : Int) < 0
  · refine ⟨-1, Or.inl rfl, fun k _ => ?_⟩
    unfold laws_szHouHouse.f laws_szSpcSpecS.f
    rw [e0, Option.bind_some, if_neg t0, wr (x := u - (l1.length : Int)) (by omega) (by omega), if_pos t1]
    rfl
  obtain ⟨s, hs, es⟩ := szSpecs_loop l1 (by omega) hG1 l1.length 0 (u - (l1.length : Int)) (by omega) (by omega) (by omega) (by omega)
  have e1 : ∀ k, 2097156 ≤ k → laws_szSpcSpecS.f k l1 u = some s := by
    intro k hk
    have := es (k - 1 - l1.length)
    rw [show k - 1 - l1.length + 1 + l1.length = k by omega] at this
    unfold laws_szSpcSpecS.f
    rw [wr (x := u - (l1.length : Int)) (by omega) (by omega), if_neg t1]
    exact this
  rcases hs with rfl | ⟨s0, s1, s2⟩
  · refine ⟨-1, Or.inl rfl, fun k hk => ?_⟩
    unfold laws_szHouHouse.f
    rw [e0, Option.bind_some, if_neg t0, e1 k hk]
    rfl
  by_cases t2 : s - (l2.length : Int) < 0
  · refine ⟨-1, Or.inl rfl, fun k hk => ?_⟩
    unfold laws_szHouHouse.f laws_szBatBatchS.f
    rw [e0, Option.bind_some, if_neg t0, e1 k hk, Option.bind_some, if_neg (by omega), wr (x := s - (l2.length : Int)) (by omega) (by omega), if_pos t2]
    rfl
  obtain ⟨q, hq, eq⟩ := szBats_loop l2 (by omega) hG2 l2.length 0 (s - (l2.length : Int)) (by omega) (by omega) (by omega) (by omega)
  refine ⟨q, hq.imp id (fun h => ⟨h.1, by omega, by omega, fun j a c => s2 j a c, by omega, fun j a c => h.2.2 j a c⟩), fun k hk => ?_⟩
  have := eq (k - 1 - l2.length) (by omega)
  rw [show k - 1 - l2.length + 1 + l2.length = k by omega] at this
  unfold laws_szHouHouse.f laws_szBatBatchS.f
  rw [e0, Option.bind_some, if_neg t0, e1 k hk, Option.bind_some, if_neg (by omega), wr (x := s - (l2.length : Int)) (by omega) (by omega), if_neg t2, this, Option.bind_some]
  rcases hq with rfl | ⟨q0, _⟩
  · rfl
  · rw [if_neg (by omega)]
def convAsk (s : S97) : S87 := ⟨s.f0, ⟨s.f1.f0, s.f1.f1⟩, ⟨s.f2.f0, s.f2.f1⟩, s.f3⟩
def convSpec (s : S56) : S64 := ⟨s.f0.map convAsk, s.f1⟩
def convBat (s : S61) : S45 := ⟨s.f0, s.f1, s.f2.map convTst, s.f3, s.f4.map convSig, s.f5.map id⟩
theorem to_asks_loop (l : List S97) (hl : l.length ≤ 1048576) (d : Nat) : ∀ (k : Nat) (x : List S87) (i : Nat), x.length = l.length → l.length - i = d → i ≤ l.length → (∀ j, j < i → x[j]? = (l.map convAsk)[j]?) → laws_toSpcTestS.l0 (k + 1 + d) l x i = some (l.map convAsk) := by
  induction d with
  | zero =>
    intro k x i hx hd hi hM
    simp only [Nat.add_zero, laws_toSpcTestS.l0]
    rw [if_neg (by omega)]
    congr 1
    apply List.ext_getElem?
    intro j
    by_cases hj : j < l.length
    · exact hM j (by omega)
    · rw [List.getElem?_eq_none (by omega), List.getElem?_eq_none (by simp; omega)]
  | succ d ih =>
    intro k x i hx hd hi hM
    rw [show k + 1 + (d + 1) = (k + 1 + d) + 1 by omega]
    simp only [laws_toSpcTestS.l0, laws_toSpcTest.f, laws_toDecDec.f, Option.bind_some]
    rw [if_pos (by omega), if_pos (by omega), if_pos (by omega), wr (x := (i : Int) + 1) (by omega) (by omega)]
    have := ih k (x.set (i : Int).toNat (convAsk (rd_T97 l i))) (i + 1) (by simp [hx]) (by omega) (by omega) (by
      intro j hj
      rw [Int.toNat_natCast, List.getElem?_set]
      by_cases e : i = j
      · subst e
        rw [if_pos rfl, if_pos (by omega), List.getElem?_map, List.getElem?_eq_getElem (by omega)]
        unfold rd_T97
        rw [List.getD_eq_getElem?_getD, Int.toNat_natCast, List.getElem?_eq_getElem (by omega)]
        rfl
      · rw [if_neg e]
        exact hM j (by omega))
    exact this
theorem to_asks (l : List S97) (hl : l.length ≤ 1048576) (k : Nat) (hk : l.length + 1 ≤ k) : laws_toSpcTestS.f k l = some (l.map convAsk) := by
  unfold laws_toSpcTestS.f
  rw [if_pos (by omega), if_pos (by omega)]
  have := to_asks_loop l hl l.length (k - 1 - l.length) (List.replicate ((l.length : Int) : Int).toNat z87) 0 (by simp) (by omega) (by omega) (by omega)
  rwa [show k - 1 - l.length + 1 + l.length = k by omega] at this
theorem to_specs_loop (l : List S56) (hl : l.length ≤ 1048576) (hf : ∀ j : Int, 0 ≤ j → j < l.length → (rd_T56 l j).f0.length ≤ 1048576) (d : Nat) : ∀ (k : Nat) (x : List S64) (i : Nat), 1048577 ≤ k → x.length = l.length → l.length - i = d → i ≤ l.length → (∀ j, j < i → x[j]? = (l.map convSpec)[j]?) → laws_toSpcSpecS.l0 (k + 1 + d) l x i = some (l.map convSpec) := by
  induction d with
  | zero =>
    intro k x i hk hx hd hi hM
    simp only [Nat.add_zero, laws_toSpcSpecS.l0]
    rw [if_neg (by omega)]
    congr 1
    apply List.ext_getElem?
    intro j
    by_cases hj : j < l.length
    · exact hM j (by omega)
    · rw [List.getElem?_eq_none (by omega), List.getElem?_eq_none (by simp; omega)]
  | succ d ih =>
    intro k x i hk hx hd hi hM
    rw [show k + 1 + (d + 1) = (k + 1 + d) + 1 by omega]
    have hq := hf i (by omega) (by omega)
    simp only [laws_toSpcSpecS.l0, laws_toSpcSpec.f]
    rw [to_asks _ hq (k + 1 + d) (by omega)]
    simp only [Option.bind_some]
    rw [if_pos (by omega), if_pos (by omega), if_pos (by omega), wr (x := (i : Int) + 1) (by omega) (by omega)]
    have := ih k (x.set (i : Int).toNat (convSpec (rd_T56 l i))) (i + 1) hk (by simp [hx]) (by omega) (by omega) (by
      intro j hj
      rw [Int.toNat_natCast, List.getElem?_set]
      by_cases e : i = j
      · subst e
        rw [if_pos rfl, if_pos (by omega), List.getElem?_map, List.getElem?_eq_getElem (by omega)]
        unfold rd_T56
        rw [List.getD_eq_getElem?_getD, Int.toNat_natCast, List.getElem?_eq_getElem (by omega)]
        rfl
      · rw [if_neg e]
        exact hM j (by omega))
    exact this
theorem to_specs (l : List S56) (hl : l.length ≤ 1048576) (hf : ∀ j : Int, 0 ≤ j → j < l.length → (rd_T56 l j).f0.length ≤ 1048576) (k : Nat) (hk : l.length + 1048578 ≤ k) : laws_toSpcSpecS.f k l = some (l.map convSpec) := by
  unfold laws_toSpcSpecS.f
  rw [if_pos (by omega), if_pos (by omega)]
  have := to_specs_loop l hl hf l.length (k - 1 - l.length) (List.replicate ((l.length : Int) : Int).toNat z64) 0 (by omega) (by simp) (by omega) (by omega) (by omega)
  rwa [show k - 1 - l.length + 1 + l.length = k by omega] at this
theorem to_bats_loop (l : List S61) (hl : l.length ≤ 1048576) (hf : ∀ j : Int, 0 ≤ j → j < l.length → Fits (rd_T61 l j).f2 (rd_T61 l j).f4 (rd_T61 l j).f5) (d : Nat) : ∀ (k : Nat) (x : List S45) (i : Nat), 2097154 ≤ k → x.length = l.length → l.length - i = d → i ≤ l.length → (∀ j, j < i → x[j]? = (l.map convBat)[j]?) → laws_toBatBatchS.l0 (k + 1 + d) l x i = some (l.map convBat) := by
  induction d with
  | zero =>
    intro k x i hk hx hd hi hM
    simp only [Nat.add_zero, laws_toBatBatchS.l0]
    rw [if_neg (by omega)]
    congr 1
    apply List.ext_getElem?
    intro j
    by_cases hj : j < l.length
    · exact hM j (by omega)
    · rw [List.getElem?_eq_none (by omega), List.getElem?_eq_none (by simp; omega)]
  | succ d ih =>
    intro k x i hk hx hd hi hM
    rw [show k + 1 + (d + 1) = (k + 1 + d) + 1 by omega]
    have hq := hf i (by omega) (by omega)
    simp only [laws_toBatBatchS.l0]
    rw [to_batch _ _ _ _ _ _ hq (k + 1 + d) (by omega)]
    simp only [Option.bind_some]
    rw [if_pos (by omega), if_pos (by omega), if_pos (by omega), wr (x := (i : Int) + 1) (by omega) (by omega)]
    have := ih k (x.set (i : Int).toNat (convBat (rd_T61 l i))) (i + 1) hk (by simp [hx]) (by omega) (by omega) (by
      intro j hj
      rw [Int.toNat_natCast, List.getElem?_set]
      by_cases e : i = j
      · subst e
        rw [if_pos rfl, if_pos (by omega), List.getElem?_map, List.getElem?_eq_getElem (by omega)]
        unfold rd_T61
        rw [List.getD_eq_getElem?_getD, Int.toNat_natCast, List.getElem?_eq_getElem (by omega)]
        rfl
      · rw [if_neg e]
        exact hM j (by omega))
    exact this
theorem to_bats (l : List S61) (hl : l.length ≤ 1048576) (hf : ∀ j : Int, 0 ≤ j → j < l.length → Fits (rd_T61 l j).f2 (rd_T61 l j).f4 (rd_T61 l j).f5) (k : Nat) (hk : l.length + 2097155 ≤ k) : laws_toBatBatchS.f k l = some (l.map convBat) := by
  unfold laws_toBatBatchS.f
  rw [if_pos (by omega), if_pos (by omega)]
  have := to_bats_loop l hl hf l.length (k - 1 - l.length) (List.replicate ((l.length : Int) : Int).toNat z45) 0 (by omega) (by simp) (by omega) (by omega) (by omega)
  rwa [show k - 1 - l.length + 1 + l.length = k by omega] at this
theorem to_house (l0 : List Int) (l1 : List S56) (l2 : List S61) (h0 : l0.length ≤ 1048576) (hF : HFits l1 l2) (k : Nat) (hk : 3145732 ≤ k) : laws_toHouHouse.f k l0 l1 l2 = some (l0, l1.map convSpec, l2.map convBat) := by
  obtain ⟨h1, h2, h3, h4⟩ := hF
  unfold laws_toHouHouse.f
  rw [to_ints l0 h0 k (by omega), Option.bind_some, to_specs l1 h1 h2 k (by omega), Option.bind_some, to_bats l2 h3 h4 k (by omega), Option.bind_some]
theorem eq_asks_loop (l : List S87) (hl : l.length ≤ 1048576) (d : Nat) : ∀ (k : Nat) (i : Int), 0 ≤ i → (l.length : Int) - i = d → laws_eqSpcTestS.l0 (k + 1 + d) l l i = some true := by
  induction d with
  | zero =>
    intro k i h0 hd
    simp only [Nat.add_zero, laws_eqSpcTestS.l0]
    rw [if_neg (by omega)]
  | succ d ih =>
    intro k i h0 hd
    rw [show k + 1 + (d + 1) = (k + 1 + d) + 1 by omega]
    simp only [laws_eqSpcTestS.l0, laws_eqSpcTest.f, laws_eqDecDec.f, if_true, Option.bind_some]
    rw [if_pos (show i < (l.length : Int) by omega), if_pos h0, if_pos (show i < (l.length : Int) by omega), wr (x := i + 1) (by omega) (by omega)]
    exact ih k (i + 1) (by omega) (by omega)
theorem eq_asks (l : List S87) (hl : l.length ≤ 1048576) (k : Nat) (hk : l.length + 1 ≤ k) : laws_eqSpcTestS.f k l l = some true := by
  unfold laws_eqSpcTestS.f
  rw [if_pos rfl]
  have := eq_asks_loop l hl l.length (k - 1 - l.length) 0 (by omega) (by omega)
  rwa [show k - 1 - l.length + 1 + l.length = k by omega] at this
theorem eq_specs_loop (l : List S64) (hl : l.length ≤ 1048576) (hf : ∀ j : Int, 0 ≤ j → j < l.length → (rd_T64 l j).f0.length ≤ 1048576) (d : Nat) : ∀ (k : Nat) (i : Int), 1048577 ≤ k → 0 ≤ i → (l.length : Int) - i = d → laws_eqSpcSpecS.l0 (k + 1 + d) l l i = some true := by
  induction d with
  | zero =>
    intro k i hk h0 hd
    simp only [Nat.add_zero, laws_eqSpcSpecS.l0]
    rw [if_neg (by omega)]
  | succ d ih =>
    intro k i hk h0 hd
    rw [show k + 1 + (d + 1) = (k + 1 + d) + 1 by omega]
    have hq := hf i h0 (by omega)
    simp only [laws_eqSpcSpecS.l0, laws_eqSpcSpec.f]
    rw [eq_asks _ hq (k + 1 + d) (by omega)]
    simp only [if_true, Option.bind_some]
    rw [if_pos (show i < (l.length : Int) by omega), if_pos h0, if_pos (show i < (l.length : Int) by omega), wr (x := i + 1) (by omega) (by omega)]
    exact ih k (i + 1) hk (by omega) (by omega)
theorem eq_specs (l : List S64) (hl : l.length ≤ 1048576) (hf : ∀ j : Int, 0 ≤ j → j < l.length → (rd_T64 l j).f0.length ≤ 1048576) (k : Nat) (hk : l.length + 1048578 ≤ k) : laws_eqSpcSpecS.f k l l = some true := by
  unfold laws_eqSpcSpecS.f
  rw [if_pos rfl]
  have := eq_specs_loop l hl hf l.length (k - 1 - l.length) 0 (by omega) (by omega) (by omega)
  rwa [show k - 1 - l.length + 1 + l.length = k by omega] at this
def BFits (b : S45) : Prop := b.f2.length ≤ 1048576 ∧ b.f4.length ≤ 1048576 ∧ b.f5.length ≤ 1048576 ∧ ∀ j : Int, 0 ≤ j → j < b.f2.length → (rd_T90 b.f2 j).f4.length ≤ 1048576
theorem eq_bats_loop (l : List S45) (hl : l.length ≤ 1048576) (hf : ∀ j : Int, 0 ≤ j → j < l.length → BFits (rd_T45 l j)) (d : Nat) : ∀ (k : Nat) (i : Int), 2097154 ≤ k → 0 ≤ i → (l.length : Int) - i = d → laws_eqBatBatchS.l0 (k + 1 + d) l l i = some true := by
  induction d with
  | zero =>
    intro k i hk h0 hd
    simp only [Nat.add_zero, laws_eqBatBatchS.l0]
    rw [if_neg (by omega)]
  | succ d ih =>
    intro k i hk h0 hd
    rw [show k + 1 + (d + 1) = (k + 1 + d) + 1 by omega]
    obtain ⟨q1, q2, q3, q4⟩ := hf i h0 (by omega)
    simp only [laws_eqBatBatchS.l0]
    rw [eq_batch _ _ _ _ _ _ q1 q2 q3 q4 (k + 1 + d) (by omega)]
    simp only [if_true, Option.bind_some]
    rw [if_pos (show i < (l.length : Int) by omega), if_pos h0, if_pos (show i < (l.length : Int) by omega), wr (x := i + 1) (by omega) (by omega)]
    exact ih k (i + 1) hk (by omega) (by omega)
theorem eq_bats (l : List S45) (hl : l.length ≤ 1048576) (hf : ∀ j : Int, 0 ≤ j → j < l.length → BFits (rd_T45 l j)) (k : Nat) (hk : l.length + 2097155 ≤ k) : laws_eqBatBatchS.f k l l = some true := by
  unfold laws_eqBatBatchS.f
  rw [if_pos rfl]
  have := eq_bats_loop l hl hf l.length (k - 1 - l.length) 0 (by omega) (by omega) (by omega)
  rwa [show k - 1 - l.length + 1 + l.length = k by omega] at this
def IFits (l1 : List S64) (l2 : List S45) : Prop :=
  l1.length ≤ 1048576 ∧ (∀ j : Int, 0 ≤ j → j < l1.length → (rd_T64 l1 j).f0.length ≤ 1048576) ∧ l2.length ≤ 1048576 ∧ ∀ j : Int, 0 ≤ j → j < l2.length → BFits (rd_T45 l2 j)
theorem eq_house (l0 : List Int) (l1 : List S64) (l2 : List S45) (h0 : l0.length ≤ 1048576) (hF : IFits l1 l2) (k : Nat) (hk : 3145732 ≤ k) : laws_eqHouHouse.f k l0 l1 l2 l0 l1 l2 = some true := by
  obtain ⟨h1, h2, h3, h4⟩ := hF
  unfold laws_eqHouHouse.f
  rw [eqInts_self l0 (by omega) k (by omega), Option.bind_some, if_pos rfl, eq_specs l1 h1 h2 k (by omega), Option.bind_some, if_pos rfl, eq_bats l2 h3 h4 k (by omega), Option.bind_some, if_pos rfl]
theorem conv_house (l1 : List S56) (l2 : List S61) (hF : HFits l1 l2) : IFits (l1.map convSpec) (l2.map convBat) := by
  obtain ⟨h1, h2, h3, h4⟩ := hF
  refine ⟨by rw [List.length_map]; exact h1, fun j h0 hj => ?_, by rw [List.length_map]; exact h3, fun j h0 hj => ?_⟩
  · rw [List.length_map] at hj
    have e : rd_T64 (l1.map convSpec) j = convSpec (rd_T56 l1 j) := by
      unfold rd_T64 rd_T56
      rw [List.getD_eq_getElem?_getD, List.getD_eq_getElem?_getD, List.getElem?_map, List.getElem?_eq_getElem (by omega)]
      rfl
    rw [e]
    unfold convSpec
    rw [List.length_map]
    exact h2 j h0 hj
  · rw [List.length_map] at hj
    have e : rd_T45 (l2.map convBat) j = convBat (rd_T61 l2 j) := by
      unfold rd_T45 rd_T61
      rw [List.getD_eq_getElem?_getD, List.getD_eq_getElem?_getD, List.getElem?_map, List.getElem?_eq_getElem (by omega)]
      rfl
    rw [e]
    obtain ⟨q1, q2, q3, q4⟩ := h4 j h0 hj
    exact ⟨by unfold convBat; rw [List.length_map]; exact q1, by unfold convBat; rw [List.length_map]; exact q2, by unfold convBat; rw [List.length_map]; exact q3, conv_fits _ q4⟩
def sts (l : List S45) : List Int := l.map (fun b => b.f3)
theorem sts_step (l : List S45) (i : Nat) (h : i < l.length) : (sts l).take i ++ [(rd_T45 l i).f3] = (sts l).take (i + 1) := by
  unfold sts rd_T45
  rw [List.getD_eq_getElem?_getD, Int.toNat_natCast, List.getElem?_eq_getElem h, List.take_succ_eq_append_getElem (by rw [List.length_map]; exact h), List.getElem_map]
  rfl
theorem sstates_loop (l0 : List Int) (l1 : List S64) (l : List S45) (hl : l.length ≤ 1048576) (d : Nat) : ∀ (k i : Nat), l.length - i = d → i ≤ l.length → spec_HouStates.l0 (k + 1 + d) ((sts l).take i) i l0 l1 l = some (sts l) := by
  induction d with
  | zero =>
    intro k i hd hi
    rw [Nat.add_zero, spec_HouStates.l0, if_neg (by omega), List.take_of_length_le (by unfold sts; rw [List.length_map]; omega)]
  | succ d ih =>
    intro k i hd hi
    have := ih k (i + 1) (by omega) (by omega)
    rw [show ((i + 1 : Nat) : Int) = (i : Int) + 1 by omega] at this
    rw [show k + 1 + (d + 1) = (k + 1 + d) + 1 by omega, spec_HouStates.l0, if_pos (by omega), if_pos (by omega), if_pos (by rw [List.length_take]; omega), wr (x := (i : Int) + 1) (by omega) (by omega), sts_step l i (by omega)]
    exact this
theorem sstates (l0 : List Int) (l1 : List S64) (l : List S45) (hl : l.length ≤ 1048576) (k : Nat) (hk : l.length + 1 ≤ k) : spec_HouStates.f k l0 l1 l = some (sts l) := by
  have := sstates_loop l0 l1 l hl l.length (k - 1 - l.length) 0 (by omega) (by omega)
  rw [show k - 1 - l.length + 1 + l.length = k by omega] at this
  exact this
theorem istates_loop (l : List S45) (hl : l.length ≤ 1048576) (d : Nat) : ∀ (k i : Nat), l.length - i = d → i ≤ l.length → impl_HouStates.l0 (k + 1 + d) ((sts l).take i) l (l.length : Int) i = some (sts l) := by
  induction d with
  | zero =>
    intro k i hd hi
    rw [Nat.add_zero, impl_HouStates.l0, if_neg (by omega), List.take_of_length_le (by unfold sts; rw [List.length_map]; omega)]
  | succ d ih =>
    intro k i hd hi
    have := ih k (i + 1) (by omega) (by omega)
    rw [show ((i + 1 : Nat) : Int) = (i : Int) + 1 by omega] at this
    rw [show k + 1 + (d + 1) = (k + 1 + d) + 1 by omega, impl_HouStates.l0, if_pos (by omega), if_pos (by omega), if_pos (by omega), if_pos (by rw [List.length_take]; omega), wr (x := (i : Int) + 1) (by omega) (by omega), sts_step l i (by omega)]
    exact this
theorem istates (l0 : List Int) (l1 : List S64) (l : List S45) (hl : l.length ≤ 1048576) (k : Nat) (hk : l.length + 1 ≤ k) : impl_HouStates.f k l0 l1 l = some (sts l) := by
  have := istates_loop l hl l.length (k - 1 - l.length) 0 (by omega) (by omega)
  rw [show k - 1 - l.length + 1 + l.length = k by omega] at this
  exact this
theorem up_val (n : Nat) : ∀ x : Int, 0 ≤ x → x + n ≤ 9223372036854775807 → up n x = x + n := by
  induction n with
  | zero => intro x _ _; show x = _; omega
  | succ n ih =>
    intro x h0 h1
    show up n (wrap64 (x + 1)) = _
    rw [wr (x := x + 1) (by omega) (by omega), ih (x + 1) (by omega) (by omega)]
    omega
theorem tot_le {α : Type} (f : α → Nat) (M : Nat) : ∀ (xs : List α), (∀ x ∈ xs, f x ≤ M) → tot f xs ≤ xs.length * M
  | [], _ => Nat.zero_le _
  | x :: xs, h => by
    have h1 := tot_le f M xs (fun y hy => h y (List.mem_cons_of_mem _ hy))
    have h2 := h x List.mem_cons_self
    show f x + tot f xs ≤ (xs.length + 1) * M
    rw [Nat.succ_mul]
    omega
theorem tot_lim {α : Type} (f : α → Nat) (M : Nat) (xs : List α) (hl : xs.length ≤ 1048576) (h : ∀ x ∈ xs, f x ≤ M) : tot f xs ≤ 1048576 * M :=
  Nat.le_trans (tot_le f M xs h) (Nat.mul_le_mul_right _ hl)
theorem mem_spec {l : List S64} {x : S64} (h : x ∈ l) : ∃ j : Int, 0 ≤ j ∧ j < l.length ∧ rd_T64 l j = x := by
  obtain ⟨i, hi, e⟩ := List.mem_iff_getElem.mp h
  exact ⟨i, by omega, by omega, by unfold rd_T64; rw [List.getD_eq_getElem?_getD, Int.toNat_natCast, List.getElem?_eq_getElem hi]; exact e⟩
theorem mem_bat {l : List S45} {x : S45} (h : x ∈ l) : ∃ j : Int, 0 ≤ j ∧ j < l.length ∧ rd_T45 l j = x := by
  obtain ⟨i, hi, e⟩ := List.mem_iff_getElem.mp h
  exact ⟨i, by omega, by omega, by unfold rd_T45; rw [List.getD_eq_getElem?_getD, Int.toNat_natCast, List.getElem?_eq_getElem hi]; exact e⟩
theorem mem_tst {l : List S90} {x : S90} (h : x ∈ l) : ∃ j : Int, 0 ≤ j ∧ j < l.length ∧ rd_T90 l j = x := by
  obtain ⟨i, hi, e⟩ := List.mem_iff_getElem.mp h
  exact ⟨i, by omega, by omega, by unfold rd_T90; rw [List.getD_eq_getElem?_getD, Int.toNat_natCast, List.getElem?_eq_getElem hi]; exact e⟩
theorem marks_house (l1 : List S64) (l2 : List S45) (hF : IFits l1 l2) : tot c64 l1 + tot c45 l2 ≤ 4611686018427387904 := by
  obtain ⟨h1, h2, h3, h4⟩ := hF
  have a := tot_lim c64 (1048576 * 6 + 1) l1 h1 (fun x hx => by
    obtain ⟨j, a, b, rfl⟩ := mem_spec hx
    have := tot_lim (fun _ => 6) 6 _ (h2 j a b) (fun _ _ => Nat.le_refl _)
    show tot _ _ + 1 ≤ _
    omega)
  have b := tot_lim c45 (2 + 1048576 * (10 + 1048576 * 2) + 1 + 1048576 * 3 + 1048576) l2 h3 (fun x hx => by
    obtain ⟨j, a, b, rfl⟩ := mem_bat hx
    obtain ⟨q1, q2, q3, q4⟩ := h4 j a b
    have t1 := tot_lim c90 (10 + 1048576 * 2) _ q1 (fun y hy => by
      obtain ⟨i, a, b, rfl⟩ := mem_tst hy
      have := tot_lim (fun _ => 2) 2 _ (q4 i a b) (fun _ _ => Nat.le_refl _)
      show 10 + tot _ _ ≤ _
      omega)
    have t2 := tot_lim (fun _ => 3) 3 _ q2 (fun _ _ => Nat.le_refl _)
    have t3 := tot_lim (fun _ => 1) 1 _ q3 (fun _ _ => Nat.le_refl _)
    show 2 + tot _ _ + 1 + tot _ _ + tot _ _ ≤ _
    omega)
  omega
theorem held_loop (m : Int) (l : List Int) (hn : l.length ≤ 4611686018427387904) (hm : 0 ≤ m ∧ m ≤ 4611686018427387903) (hM : Marked l m l.length) (d : Nat) : ∀ (k i : Nat), l.length - i = d → i ≤ l.length → laws_heldIntS.l0 (k + 1 + d) l (m + i) i = some (m + l.length) := by
  induction d with
  | zero =>
    intro k i hd hi
    obtain rfl : i = l.length := by omega
    rw [Nat.add_zero, laws_heldIntS.l0, if_neg (by omega)]
  | succ d ih =>
    intro k i hd hi
    have h2 := hM i (by omega)
    have := ih k (i + 1) (by omega) (by omega)
    rw [show m + ((i + 1 : Nat) : Int) = m + i + 1 by omega, show ((i + 1 : Nat) : Int) = (i : Int) + 1 by omega] at this
    rw [show k + 1 + (d + 1) = (k + 1 + d) + 1 by omega, laws_heldIntS.l0, if_pos (by omega), if_pos (by omega), if_pos h2, wr (x := m + i + 1) (by omega) (by omega), wr (x := (i : Int) + 1) (by omega) (by omega)]
    exact this
theorem held_ints (l : List Int) (hn : l.length ≤ 1048576) (hM : Marked l 1 l.length) (k : Nat) (hk : l.length + 2 ≤ k) : laws_heldIntS.f k l 1 = some ((1 : Int) + (l.length : Int)) := by
  have e := held_loop 1 l (by omega) (by omega) hM l.length (k - 1 - l.length) 0 (by omega) (by omega)
  rw [show k - 1 - l.length + 1 + l.length = k by omega] at e
  exact e
theorem FnExactHouStates : laws_FnExactHouStates.Pure := by
  intro l0 l1 l2 g0 g1 g2
  have b0 : l0.length ≤ 9223372036854775807 := Nat.le_trans g0.1 (by decide)
  have b1 : l1.length ≤ 9223372036854775807 := Nat.le_trans g1.1 (by decide)
  have b2 : l2.length ≤ 9223372036854775807 := Nat.le_trans g2.1 (by decide)
  have c1 : ∀ z ∈ l1, z.f0.length ≤ 9223372036854775807 := fun z hz => Nat.le_trans (g1.2 z hz).1.1 (by decide)
  have c2 : ∀ z ∈ l2, z.f2.length ≤ 9223372036854775807 ∧ (∀ y ∈ z.f2, y.f4.length ≤ 9223372036854775807) ∧ z.f4.length ≤ 9223372036854775807 ∧ z.f5.length ≤ 9223372036854775807 := fun z hz =>
    have h := g2.2 z hz
    ⟨Nat.le_trans h.2.2.1.1 (by decide), fun y hy => Nat.le_trans (h.2.2.1.2 y hy).2.2.2.2.1 (by decide), Nat.le_trans h.2.2.2.2.1.1 (by decide), Nat.le_trans h.2.2.2.2.2.1 (by decide)⟩
  clear g0 g1 g2
  obtain ⟨s, hs, es⟩ := sz_house l0 l1 l2 b0 b1 c1 b2 c2
  clear b0 b1 b2 c1 c2
  obtain ⟨k, hk⟩ : ∃ k, 4194310 ≤ k := ⟨_, Nat.le_refl _⟩
  refine ⟨k + 1, ?_⟩
  have e := es (k + 1) (by omega)
  unfold laws_FnExactHouStates.f
  rw [e, Option.bind_some]
  rcases hs with rfl | ⟨h0, hl, hF⟩
  · rw [if_pos (by omega)]
  · have hI := conv_house l1 l2 hF
    have t := fun k hk => to_house l0 l1 l2 hl hF k hk
    generalize l1.map convSpec = L1 at *
    generalize l2.map convBat = L2 at *
    have lb := hI.2.2.1
    have lq : (sts L2).length = L2.length := by unfold sts; rw [List.length_map]
    have q := fun k hk => eqInts_self (sts L2) (by omega) k hk
    have ss := sstates l0 L1 L2 lb (k + 1) (by omega)
    have is := fun k hk => istates l0 L1 L2 lb k hk
    have eh := eq_house l0 L1 L2 hl hI (k + 1) (by omega)
    have mb := marks_house L1 L2 hI
    obtain ⟨l', _, _, em⟩ := mark_ints l0 1 (by omega) (by omega)
    obtain ⟨P, hP, hM, eP⟩ := mark_ints (sts L2) 1 (by omega) (by omega)
    have hd := held_ints P (by omega) (by rw [hP]; exact hM) k (by omega)
    have mk : laws_markHouHouse.f (k + 1) l0 L1 L2 1 = some ((1 : Int) + (l0.length : Int) + (tot c64 L1 : Nat) + (tot c45 L2 : Nat), l') := by
      unfold laws_markHouHouse.f
      rw [if_pos mb, em (k + 1) (by omega), Option.bind_some, up_val (tot c64 L1) _ (by omega) (by omega), up_val (tot c45 L2) _ (by omega) (by omega)]
    have fin : laws_FnExactHouStates.j0 (k + 1) (sts L2) (sts L2) false l0 l1 l2 = some true := by
      rw [laws_FnExactHouStates.j0, if_neg (by simp), eP k (by omega), Option.bind_some, hd, Option.bind_some, if_neg (by omega), if_pos (by rw [hP]), t k (by omega), Option.bind_some, is k (by omega), Option.bind_some, q k (by omega), Option.bind_some, if_pos rfl, Option.bind_some, if_neg (by omega), if_pos (by rw [hP])]
    rw [if_neg (by omega), t (k + 1) (by omega), Option.bind_some, ss, Option.bind_some, Option.bind_some, is (k + 1) (by omega), Option.bind_some, q (k + 1) (by omega), Option.bind_some, if_pos rfl, Option.bind_some, eh, Option.bind_some, if_pos rfl, mk, Option.bind_some, if_neg (by omega), Option.bind_some]
    exact fin

end Go.Proofs.Ytcifhhgoippmbaa.Pure
