/- BatSigned of the program answers as the reference, at a batch of its own room: the law's pure statement; no conditions. -/
import Derived.Test.YthebfdgnahfhgaaAllx0
import Derived.Test.YthebfdgnahfhgaaAllx10
import Derived.Test.YthebfdgnahfhgaaAllx11
import Derived.Test.YthebfdgnahfhgaaAllx12
import Derived.Test.YthebfdgnahfhgaaAllx13
import Derived.Test.YthebfdgnahfhgaaAllx3
import Derived.Test.YthebfdgnahfhgaaAllx4
import Derived.Test.YthebfdgnahfhgaaAllx5
import Derived.Test.YthebfdgnahfhgaaAllx6
import Derived.Test.YthebfdgnahfhgaaAllx7
import Derived.Test.YthebfdgnahfhgaaAllx8
import Derived.Test.YthebfdgnahfhgaaAllx9
import Derived.Test.YthebfdgnahfhgaaSaysFnExactBatSigned
set_option linter.unusedVariables false
set_option linter.unusedSimpArgs false
namespace Go.Proofs.Ythebfdgnahfhgaa.Pure
open Go.RowKit Go.Proofs.Ythebfdgnahfhgaa.All Go.Proofs.YthebfdgnahfhgaaW.PrintWords Go.Proofs.YthebfdgnahfhgaaW.PrintLast Go.Proofs.YthebfdgnahfhgaaW.PrintMore

theorem wr {x : Int} (h1 : -9223372036854775808 ≤ x) (h2 : x ≤ 9223372036854775807) : wrap64 x = x := by unfold wrap64; omega
def convD (s : S105) : S81 := ⟨s.f0, s.f1⟩
def convTst (s : S153) : S86 := ⟨⟨s.f0.f0, ⟨s.f0.f1.f0, s.f0.f1.f1⟩, ⟨s.f0.f2.f0, s.f0.f2.f1⟩, s.f0.f3⟩, s.f1, ⟨s.f2.f0, s.f2.f1⟩, s.f3, s.f4.map convD⟩
def convSig (s : S156) : S41 := ⟨s.f0, s.f1, s.f2⟩
theorem rdTst_mem (l : List S153) (i : Int) (h0 : 0 ≤ i) (h : i < l.length) : rd_T153 l i ∈ l := by
  unfold rd_T153
  rw [List.getD_eq_getElem?_getD, List.getElem?_eq_getElem (by omega)]
  exact List.getElem_mem _
def tsz (l : List S153) : Nat → Int → Int → Int
  | 0, _, b => b
  | n + 1, i, b => if b - ((rd_T153 l i).f4.length : Int) < 0 then -1 else tsz l n (i + 1) (b - ((rd_T153 l i).f4.length : Int))
theorem tsz_facts (l : List S153) (n : Nat) : ∀ (i b : Int), 0 ≤ b → b ≤ 1048576 → tsz l n i b = -1 ∨ (0 ≤ tsz l n i b ∧ tsz l n i b ≤ 1048576 ∧ ∀ j, i ≤ j → j < i + n → (rd_T153 l j).f4.length ≤ 1048576) := by
  induction n with
  | zero =>
    intro i b h0 h1
    exact Or.inr ⟨h0, h1, fun j a c => by omega⟩
  | succ n ih =>
    intro i b h0 h1
    simp only [tsz]
    by_cases hn : b - ((rd_T153 l i).f4.length : Int) < 0
    · rw [if_pos hn]; exact Or.inl rfl
    · rw [if_neg hn]
      rcases ih (i + 1) (b - ((rd_T153 l i).f4.length : Int)) (by omega) (by omega) with e | ⟨e1, e2, g⟩
      · exact Or.inl e
      · refine Or.inr ⟨e1, e2, fun j a c => ?_⟩
        by_cases q : j = i
        · subst q; omega
        · exact g j (by omega) (by omega)
theorem szTests_loop (l : List S153) (hl : l.length ≤ 1048576) (hG : ∀ z ∈ l, z.f4.length ≤ 9223372036854775807) (d : Nat) : ∀ (k : Nat) (i b : Int), 0 ≤ i → (l.length : Int) - i = d → 0 ≤ b → b ≤ 1048576 →
    laws_szTstTestS.l0 (k + 1 + d) l b i = some (tsz l d i b) := by
  induction d with
  | zero =>
    intro k i b h0 hd hb0 hb
    simp only [Nat.add_zero, laws_szTstTestS.l0, tsz]
    rw [if_neg (by omega)]
  | succ d ih =>
    intro k i b h0 hd hb0 hb
    have hm := hG _ (rdTst_mem l i h0 (by omega))
    rw [show k + 1 + (d + 1) = (k + 1 + d) + 1 by omega]
    simp only [laws_szTstTestS.l0, laws_szTstTest.f, laws_szDecDecS.f, tsz]
    rw [if_pos (by omega), if_pos h0, wr (x := b - ((rd_T153 l i).f4.length : Int)) (by omega) (by omega), wr (x := i + 1) (by omega) (by omega)]
    by_cases hn : b - ((rd_T153 l i).f4.length : Int) < 0
    · rw [if_pos hn, if_pos hn]
      simp
    · rw [if_neg hn, if_neg hn]
      simp only [Option.bind_some]
      rw [if_neg hn]
      simp only [Option.bind_some]
      rw [if_neg hn]
      exact ih k (i + 1) _ (by omega) (by omega) (by omega) (by omega)
def Fits (tests : List S153) (sigs : List S156) (papers : List Bool) : Prop :=
  tests.length ≤ 1048576 ∧ sigs.length ≤ 1048576 ∧ papers.length ≤ 1048576 ∧ ∀ j : Int, 0 ≤ j → j < tests.length → (rd_T153 tests j).f4.length ≤ 1048576
theorem sz_batch (a b : Int) (tests : List S153) (c : Int) (sigs : List S156) (papers : List Bool) (h1 : tests.length ≤ 9223372036854775807) (hG : ∀ z ∈ tests, z.f4.length ≤ 9223372036854775807) (h2 : sigs.length ≤ 9223372036854775807) (h3 : papers.length ≤ 9223372036854775807) :
    ∃ r : Int, (r = -1 ∨ (0 ≤ r ∧ Fits tests sigs papers)) ∧ ∀ k, 1048578 ≤ k → laws_szBatBatch.f k a b tests c sigs papers 1048576 = some r := by
  by_cases t1 : 1048576 - (tests.length : Int) < 0
  · refine ⟨-1, Or.inl rfl, fun k _ => ?_⟩
    unfold laws_szBatBatch.f laws_szTstTestS.f
    rw [wr (x := 1048576 - (tests.length : Int)) (by omega) (by omega), if_pos t1]
    simp
  · have e : ∀ k, 1048578 ≤ k → laws_szTstTestS.f k tests 1048576 = some (tsz tests tests.length 0 (1048576 - (tests.length : Int))) := by
      intro k hk
      have := szTests_loop tests (by omega) hG tests.length (k - 1 - tests.length) 0 (1048576 - (tests.length : Int)) (by omega) (by omega) (by omega) (by omega)
      rw [show k - 1 - tests.length + 1 + tests.length = k by omega] at this
      unfold laws_szTstTestS.f
      rw [wr (x := 1048576 - (tests.length : Int)) (by omega) (by omega), if_neg t1]
      exact this
    have f := tsz_facts tests tests.length 0 (1048576 - (tests.length : Int)) (by omega) (by omega)
    generalize tsz tests tests.length 0 (1048576 - (tests.length : Int)) = u at *
    rcases f with f | ⟨f1, f2, g⟩
    · refine ⟨-1, Or.inl rfl, fun k hk => ?_⟩
      unfold laws_szBatBatch.f
      rw [e k hk, f]
      simp
    · by_cases t2 : u - (sigs.length : Int) < 0
      · refine ⟨-1, Or.inl rfl, fun k hk => ?_⟩
        unfold laws_szBatBatch.f laws_szBatSigS.f
        rw [e k hk]
        simp only [Option.bind_some]
        rw [if_neg (show ¬ u < 0 by omega), wr (x := u - (sigs.length : Int)) (by omega) (by omega), if_pos t2]
        simp only [Option.bind_some]
        rw [if_pos (by omega)]
      · by_cases t3 : u - (sigs.length : Int) - (papers.length : Int) < 0
        · refine ⟨-1, Or.inl rfl, fun k hk => ?_⟩
          unfold laws_szBatBatch.f laws_szBatSigS.f laws_szBoolS.f
          rw [e k hk]
          simp only [Option.bind_some]
          rw [if_neg (show ¬ u < 0 by omega), wr (x := u - (sigs.length : Int)) (by omega) (by omega), if_neg t2]
          simp only [Option.bind_some]
          rw [if_neg t2, wr (x := u - (sigs.length : Int) - (papers.length : Int)) (by omega) (by omega), if_pos t3]
          simp only [Option.bind_some]
          rw [if_pos (by omega)]
        · refine ⟨u - (sigs.length : Int) - (papers.length : Int), Or.inr ⟨by omega, by omega, by omega, by omega, fun j a c => g j a (by omega)⟩, fun k hk => ?_⟩
          unfold laws_szBatBatch.f laws_szBatSigS.f laws_szBoolS.f
          rw [e k hk]
          simp only [Option.bind_some]
          rw [if_neg (show ¬ u < 0 by omega), wr (x := u - (sigs.length : Int)) (by omega) (by omega), if_neg t2]
          simp only [Option.bind_some]
          rw [if_neg t2, wr (x := u - (sigs.length : Int) - (papers.length : Int)) (by omega) (by omega), if_neg t3]
          simp only [Option.bind_some]
          rw [if_neg t3]
theorem to_decs_loop (l : List S105) (hl : l.length ≤ 1048576) (d : Nat) : ∀ (k : Nat) (x : List S81) (i : Nat), x.length = l.length → l.length - i = d → i ≤ l.length → (∀ j, j < i → x[j]? = (l.map convD)[j]?) → laws_toDecDecS.l0 (k + 1 + d) l x i = some (l.map convD) := by
  induction d with
  | zero =>
    intro k x i hx hd hi hM
    simp only [Nat.add_zero, laws_toDecDecS.l0]
    rw [if_neg (by omega)]
    congr 1
    apply List.ext_getElem?
    intro j
    by_cases hj : j < l.length
    · exact hM j (by omega)
    · rw [List.getElem?_eq_none (by omega), List.getElem?_eq_none (by simp; omega)]
  | succ d ih =>
    intro k x i hx hd hi hM
    rw [show k + 1 + (d + 1) = (k + 1 + d) + 1 by omega]
    simp only [laws_toDecDecS.l0, laws_toDecDec.f, Option.bind_some]
    rw [if_pos (by omega), if_pos (by omega), if_pos (by omega), wr (x := (i : Int) + 1) (by omega) (by omega)]
    have := ih k (x.set (i : Int).toNat (convD (rd_T105 l i))) (i + 1) (by simp [hx]) (by omega) (by omega) (by
      intro j hj
      rw [Int.toNat_natCast, List.getElem?_set]
      by_cases e : i = j
      · subst e
        rw [if_pos rfl, if_pos (by omega), List.getElem?_map, List.getElem?_eq_getElem (by omega)]
        unfold rd_T105
        rw [List.getD_eq_getElem?_getD, Int.toNat_natCast, List.getElem?_eq_getElem (by omega)]
        rfl
      · rw [if_neg e]
        exact hM j (by omega))
    exact this
theorem to_decs (l : List S105) (hl : l.length ≤ 1048576) (k : Nat) (hk : l.length + 1 ≤ k) : laws_toDecDecS.f k l = some (l.map convD) := by
  unfold laws_toDecDecS.f
  rw [if_pos (by omega), if_pos (by omega)]
  have := to_decs_loop l hl l.length (k - 1 - l.length) (List.replicate ((l.length : Int) : Int).toNat z81) 0 (by simp) (by omega) (by omega) (by omega)
  rwa [show k - 1 - l.length + 1 + l.length = k by omega] at this
theorem to_sigs_loop (l : List S156) (hl : l.length ≤ 1048576) (d : Nat) : ∀ (k : Nat) (x : List S41) (i : Nat), x.length = l.length → l.length - i = d → i ≤ l.length → (∀ j, j < i → x[j]? = (l.map convSig)[j]?) → laws_toBatSigS.l0 (k + 1 + d) l x i = some (l.map convSig) := by
  induction d with
  | zero =>
    intro k x i hx hd hi hM
    simp only [Nat.add_zero, laws_toBatSigS.l0]
    rw [if_neg (by omega)]
    congr 1
    apply List.ext_getElem?
    intro j
    by_cases hj : j < l.length
    · exact hM j (by omega)
    · rw [List.getElem?_eq_none (by omega), List.getElem?_eq_none (by simp; omega)]
  | succ d ih =>
    intro k x i hx hd hi hM
    rw [show k + 1 + (d + 1) = (k + 1 + d) + 1 by omega]
    simp only [laws_toBatSigS.l0, laws_toBatSig.f, Option.bind_some]
    rw [if_pos (by omega), if_pos (by omega), if_pos (by omega), wr (x := (i : Int) + 1) (by omega) (by omega)]
    have := ih k (x.set (i : Int).toNat (convSig (rd_T156 l i))) (i + 1) (by simp [hx]) (by omega) (by omega) (by
      intro j hj
      rw [Int.toNat_natCast, List.getElem?_set]
      by_cases e : i = j
      · subst e
        rw [if_pos rfl, if_pos (by omega), List.getElem?_map, List.getElem?_eq_getElem (by omega)]
        unfold rd_T156
        rw [List.getD_eq_getElem?_getD, Int.toNat_natCast, List.getElem?_eq_getElem (by omega)]
        rfl
      · rw [if_neg e]
        exact hM j (by omega))
    exact this
theorem to_sigs (l : List S156) (hl : l.length ≤ 1048576) (k : Nat) (hk : l.length + 1 ≤ k) : laws_toBatSigS.f k l = some (l.map convSig) := by
  unfold laws_toBatSigS.f
  rw [if_pos (by omega), if_pos (by omega)]
  have := to_sigs_loop l hl l.length (k - 1 - l.length) (List.replicate ((l.length : Int) : Int).toNat z41) 0 (by simp) (by omega) (by omega) (by omega)
  rwa [show k - 1 - l.length + 1 + l.length = k by omega] at this
theorem to_bools_loop (l : List Bool) (hl : l.length ≤ 1048576) (d : Nat) : ∀ (k : Nat) (x : List Bool) (i : Nat), x.length = l.length → l.length - i = d → i ≤ l.length → (∀ j, j < i → x[j]? = (l.map id)[j]?) → laws_toBoolS.l0 (k + 1 + d) l x i = some (l.map id) := by
  induction d with
  | zero =>
    intro k x i hx hd hi hM
    simp only [Nat.add_zero, laws_toBoolS.l0]
    rw [if_neg (by omega)]
    congr 1
    apply List.ext_getElem?
    intro j
    by_cases hj : j < l.length
    · exact hM j (by omega)
    · rw [List.getElem?_eq_none (by omega), List.getElem?_eq_none (by simp; omega)]
  | succ d ih =>
    intro k x i hx hd hi hM
    rw [show k + 1 + (d + 1) = (k + 1 + d) + 1 by omega]
    simp only [laws_toBoolS.l0, Option.bind_some]
    rw [if_pos (by omega), if_pos (by omega), if_pos (by omega), wr (x := (i : Int) + 1) (by omega) (by omega)]
    have := ih k (x.set (i : Int).toNat (id (rdOf false l i))) (i + 1) (by simp [hx]) (by omega) (by omega) (by
      intro j hj
      rw [Int.toNat_natCast, List.getElem?_set]
      by_cases e : i = j
      · subst e
        rw [if_pos rfl, if_pos (by omega), List.getElem?_map, List.getElem?_eq_getElem (by omega)]
        unfold rdOf
        rw [List.getD_eq_getElem?_getD, Int.toNat_natCast, List.getElem?_eq_getElem (by omega)]
        rfl
      · rw [if_neg e]
        exact hM j (by omega))
    exact this
theorem to_bools (l : List Bool) (hl : l.length ≤ 1048576) (k : Nat) (hk : l.length + 1 ≤ k) : laws_toBoolS.f k l = some (l.map id) := by
  unfold laws_toBoolS.f
  rw [if_pos (by omega), if_pos (by omega)]
  have := to_bools_loop l hl l.length (k - 1 - l.length) (List.replicate ((l.length : Int) : Int).toNat false) 0 (by simp) (by omega) (by omega) (by omega)
  rwa [show k - 1 - l.length + 1 + l.length = k by omega] at this
theorem to_tests_loop (l : List S153) (hl : l.length ≤ 1048576) (hf : ∀ j : Int, 0 ≤ j → j < l.length → (rd_T153 l j).f4.length ≤ 1048576) (d : Nat) : ∀ (k : Nat) (x : List S86) (i : Nat), 1048577 ≤ k → x.length = l.length → l.length - i = d → i ≤ l.length → (∀ j, j < i → x[j]? = (l.map convTst)[j]?) → laws_toTstTestS.l0 (k + 1 + d) l x i = some (l.map convTst) := by
  induction d with
  | zero =>
    intro k x i hk hx hd hi hM
    simp only [Nat.add_zero, laws_toTstTestS.l0]
    rw [if_neg (by omega)]
    congr 1
    apply List.ext_getElem?
    intro j
    by_cases hj : j < l.length
    · exact hM j (by omega)
    · rw [List.getElem?_eq_none (by omega), List.getElem?_eq_none (by simp; omega)]
  | succ d ih =>
    intro k x i hk hx hd hi hM
    rw [show k + 1 + (d + 1) = (k + 1 + d) + 1 by omega]
    simp only [laws_toTstTestS.l0, laws_toTstTest.f, laws_toSpcTest.f, laws_toDecDec.f, Option.bind_some]
    have hq := hf i (by omega) (by omega)
    rw [to_decs _ hq (k + 1 + d) (by omega)]
    simp only [Option.bind_some]
    rw [if_pos (by omega), if_pos (by omega), if_pos (by omega), wr (x := (i : Int) + 1) (by omega) (by omega)]
    have := ih k (x.set (i : Int).toNat (convTst (rd_T153 l i))) (i + 1) hk (by simp [hx]) (by omega) (by omega) (by
      intro j hj
      rw [Int.toNat_natCast, List.getElem?_set]
      by_cases e : i = j
      · subst e
        rw [if_pos rfl, if_pos (by omega), List.getElem?_map, List.getElem?_eq_getElem (by omega)]
        unfold rd_T153
        rw [List.getD_eq_getElem?_getD, Int.toNat_natCast, List.getElem?_eq_getElem (by omega)]
        rfl
      · rw [if_neg e]
        exact hM j (by omega))
    exact this
theorem to_tests (l : List S153) (hl : l.length ≤ 1048576) (hf : ∀ j : Int, 0 ≤ j → j < l.length → (rd_T153 l j).f4.length ≤ 1048576) (k : Nat) (hk : l.length + 1048578 ≤ k) : laws_toTstTestS.f k l = some (l.map convTst) := by
  unfold laws_toTstTestS.f
  rw [if_pos (by omega), if_pos (by omega)]
  have := to_tests_loop l hl hf l.length (k - 1 - l.length) (List.replicate ((l.length : Int) : Int).toNat z86) 0 (by omega) (by simp) (by omega) (by omega) (by omega)
  rwa [show k - 1 - l.length + 1 + l.length = k by omega] at this
theorem eq_decs_loop (l : List S81) (hl : l.length ≤ 1048576) (d : Nat) : ∀ (k : Nat) (i : Int), 0 ≤ i → (l.length : Int) - i = d → laws_eqDecDecS.l0 (k + 1 + d) l l i = some true := by
  induction d with
  | zero =>
    intro k i h0 hd
    simp only [Nat.add_zero, laws_eqDecDecS.l0]
    rw [if_neg (by omega)]
  | succ d ih =>
    intro k i h0 hd
    rw [show k + 1 + (d + 1) = (k + 1 + d) + 1 by omega]
    simp only [laws_eqDecDecS.l0, laws_eqDecDec.f, if_true, Option.bind_some]
    rw [if_pos (show i < (l.length : Int) by omega), if_pos h0, if_pos (show i < (l.length : Int) by omega), wr (x := i + 1) (by omega) (by omega)]
    exact ih k (i + 1) (by omega) (by omega)
theorem eq_decs (l : List S81) (hl : l.length ≤ 1048576) (k : Nat) (hk : l.length + 1 ≤ k) : laws_eqDecDecS.f k l l = some true := by
  unfold laws_eqDecDecS.f
  rw [if_pos rfl]
  have := eq_decs_loop l hl l.length (k - 1 - l.length) 0 (by omega) (by omega)
  rwa [show k - 1 - l.length + 1 + l.length = k by omega] at this
theorem eq_sigs_loop (l : List S41) (hl : l.length ≤ 1048576) (d : Nat) : ∀ (k : Nat) (i : Int), 0 ≤ i → (l.length : Int) - i = d → laws_eqBatSigS.l0 (k + 1 + d) l l i = some true := by
  induction d with
  | zero =>
    intro k i h0 hd
    simp only [Nat.add_zero, laws_eqBatSigS.l0]
    rw [if_neg (by omega)]
  | succ d ih =>
    intro k i h0 hd
    rw [show k + 1 + (d + 1) = (k + 1 + d) + 1 by omega]
    simp only [laws_eqBatSigS.l0, laws_eqBatSig.f, if_true, Option.bind_some]
    rw [if_pos (show i < (l.length : Int) by omega), if_pos h0, if_pos (show i < (l.length : Int) by omega), wr (x := i + 1) (by omega) (by omega)]
    exact ih k (i + 1) (by omega) (by omega)
theorem eq_sigs (l : List S41) (hl : l.length ≤ 1048576) (k : Nat) (hk : l.length + 1 ≤ k) : laws_eqBatSigS.f k l l = some true := by
  unfold laws_eqBatSigS.f
  rw [if_pos rfl]
  have := eq_sigs_loop l hl l.length (k - 1 - l.length) 0 (by omega) (by omega)
  rwa [show k - 1 - l.length + 1 + l.length = k by omega] at this
theorem eq_bools_loop (l : List Bool) (hl : l.length ≤ 1048576) (d : Nat) : ∀ (k : Nat) (i : Int), 0 ≤ i → (l.length : Int) - i = d → laws_eqBoolS.l0 (k + 1 + d) l l i = some true := by
  induction d with
  | zero =>
    intro k i h0 hd
    simp only [Nat.add_zero, laws_eqBoolS.l0]
    rw [if_neg (by omega)]
  | succ d ih =>
    intro k i h0 hd
    rw [show k + 1 + (d + 1) = (k + 1 + d) + 1 by omega]
    simp only [laws_eqBoolS.l0]
    rw [if_pos (show i < (l.length : Int) by omega), if_pos h0, if_pos (show i < (l.length : Int) by omega), if_neg (by simp), wr (x := i + 1) (by omega) (by omega)]
    exact ih k (i + 1) (by omega) (by omega)
theorem eq_bools (l : List Bool) (hl : l.length ≤ 1048576) (k : Nat) (hk : l.length + 1 ≤ k) : laws_eqBoolS.f k l l = some true := by
  unfold laws_eqBoolS.f
  rw [if_pos rfl]
  have := eq_bools_loop l hl l.length (k - 1 - l.length) 0 (by omega) (by omega)
  rwa [show k - 1 - l.length + 1 + l.length = k by omega] at this
theorem eq_tests_loop (l : List S86) (hl : l.length ≤ 1048576) (hf : ∀ j : Int, 0 ≤ j → j < l.length → (rd_T86 l j).f4.length ≤ 1048576) (d : Nat) : ∀ (k : Nat) (i : Int), 1048577 ≤ k → 0 ≤ i → (l.length : Int) - i = d → laws_eqTstTestS.l0 (k + 1 + d) l l i = some true := by
  induction d with
  | zero =>
    intro k i hk h0 hd
    simp only [Nat.add_zero, laws_eqTstTestS.l0]
    rw [if_neg (by omega)]
  | succ d ih =>
    intro k i hk h0 hd
    rw [show k + 1 + (d + 1) = (k + 1 + d) + 1 by omega]
    have hq := hf i h0 (by omega)
    simp only [laws_eqTstTestS.l0, laws_eqTstTest.f, laws_eqSpcTest.f, laws_eqDecDec.f, if_true, Option.bind_some]
    rw [eq_decs _ hq (k + 1 + d) (by omega)]
    simp only [if_true, Option.bind_some]
    rw [if_pos (show i < (l.length : Int) by omega), if_pos h0, if_pos (show i < (l.length : Int) by omega), wr (x := i + 1) (by omega) (by omega)]
    exact ih k (i + 1) hk (by omega) (by omega)
theorem eq_tests (l : List S86) (hl : l.length ≤ 1048576) (hf : ∀ j : Int, 0 ≤ j → j < l.length → (rd_T86 l j).f4.length ≤ 1048576) (k : Nat) (hk : l.length + 1048578 ≤ k) : laws_eqTstTestS.f k l l = some true := by
  unfold laws_eqTstTestS.f
  rw [if_pos rfl]
  have := eq_tests_loop l hl hf l.length (k - 1 - l.length) 0 (by omega) (by omega) (by omega)
  rwa [show k - 1 - l.length + 1 + l.length = k by omega] at this
def mix (a b : Int) : Int := Int.tmod (wrap64 ((wrap64 ((wrap64 ((wrap64 (a * 8191)) + (Int.tmod b 999983))) + 999983)) + 7)) 999983
theorem mix_eq (a b : Int) : spec_l6Mix.f a b = some (mix a b) := rfl
def mfold (l : List Int) : Nat → Int → Int → Int
  | 0, _, x => x
  | n + 1, i, x => mfold l n (i + 1) (mix x (rd l i))
theorem mixed_loop (l : List Int) (hl : l.length ≤ 100) (d : Nat) : ∀ (k : Nat) (x i : Int), 0 ≤ i → (l.length : Int) - i = d → impl_mixed.l0 (k + 1 + d) x l (l.length : Int) i = some (mfold l d i x) := by
  induction d with
  | zero =>
    intro k x i h0 hd
    simp only [Nat.add_zero, impl_mixed.l0, mfold]
    rw [if_neg (by omega)]
  | succ d ih =>
    intro k x i h0 hd
    rw [show k + 1 + (d + 1) = (k + 1 + d) + 1 by omega]
    simp only [impl_mixed.l0, mfold]
    rw [if_pos (by omega), if_pos h0, if_pos (by omega), wr (x := i + 1) (by omega) (by omega)]
    exact ih k _ (i + 1) (by omega) (by omega)
theorem mixed_eq (l : List Int) (hl : l.length ≤ 100) (k : Nat) (hk : 101 ≤ k) (x : Int) : impl_mixed.f k x l = some (mfold l l.length 0 x) := by
  have := mixed_loop l hl l.length (k - 1 - l.length) x 0 (by omega) (by omega)
  rw [show k - 1 - l.length + 1 + l.length = k by omega] at this
  exact this
theorem mixed1 (k : Nat) (hk : 101 ≤ k) (x a : Int) : impl_mixed.f k x [a] = some (mix x a) := mixed_eq [a] (by simp) k hk x
theorem mixed2 (k : Nat) (hk : 101 ≤ k) (x a b : Int) : impl_mixed.f k x [a, b] = some (mix (mix x a) b) := mixed_eq [a, b] (by simp) k hk x
theorem mixed4 (k : Nat) (hk : 101 ≤ k) (x a b c d : Int) : impl_mixed.f k x [a, b, c, d] = some (mix (mix (mix (mix x a) b) c) d) := mixed_eq [a, b, c, d] (by simp) k hk x
def dm (l : List S81) : Nat → Int → Int → Int
  | 0, _, x => x
  | n + 1, i, x => dm l n (i + 1) (mix (mix x (rd_T81 l i).f0) (rd_T81 l i).f1)
def tm (l : List S86) : Nat → Int → Int → Int
  | 0, _, x => x
  | n + 1, i, x => tm l n (i + 1) (dm (rd_T86 l i).f4 (rd_T86 l i).f4.length 0 (mix (mix (mix (mix x (rd_T86 l i).f1) (rd_T86 l i).f2.f0) (rd_T86 l i).f2.f1) (rd_T86 l i).f3))
def bm (l : List Bool) : Nat → Int → Int → Int
  | 0, _, x => x
  | n + 1, i, x => bm l n (i + 1) (if rdOf false l i = true then mix (mix x (i + 1)) 77 else mix x (i + 1))
theorem smark2 (a b : Int) (T : List S86) (c : Int) (G : List S41) (B : List Bool) (hB : B.length ≤ 1048576) (d : Nat) : ∀ (k : Nat) (x i : Int), 0 ≤ i → (B.length : Int) - i = d → spec_BatMark.l2 (k + 1 + d) x i a b T c G B = some (bm B d i x) := by
  induction d with
  | zero =>
    intro k x i h0 hd
    simp only [Nat.add_zero, spec_BatMark.l2, bm]
    rw [if_neg (by omega)]
  | succ d ih =>
    intro k x i h0 hd
    rw [show k + 1 + (d + 1) = (k + 1 + d) + 1 by omega]
    simp only [spec_BatMark.l2, bm, mix_eq, Option.bind_some]
    rw [if_pos (by omega), if_pos h0, wr (x := i + 1) (by omega) (by omega), ih k _ (i + 1) (by omega) (by omega), ih k _ (i + 1) (by omega) (by omega)]
    split <;> rfl
theorem smark1 (a b : Int) (T : List S86) (c : Int) (G : List S41) (B : List Bool) (y0 y1 y2 y3 y4 y5 y6 y7 y8 y9 : Int) (D : List S81) (hD : D.length ≤ 1048576) (i : Int) (d : Nat) : ∀ (k : Nat) (x j : Int), 0 ≤ j → (D.length : Int) - j = d →
    spec_BatMark.l1 (k + 1 + d) x i j a b T c G B y0 y1 y2 y3 y4 y5 y6 y7 y8 y9 D = spec_BatMark.l0 k (dm D d j x) (wrap64 (i + 1)) a b T c G B := by
  induction d with
  | zero =>
    intro k x j h0 hd
    rw [Nat.add_zero, spec_BatMark.l1]
    simp only [dm]
    rw [if_neg (by omega)]
  | succ d ih =>
    intro k x j h0 hd
    rw [show k + 1 + (d + 1) = (k + 1 + d) + 1 by omega, spec_BatMark.l1]
    simp only [dm, mix_eq, Option.bind_some]
    rw [if_pos (by omega), if_pos h0, wr (x := j + 1) (by omega) (by omega)]
    exact ih k _ (j + 1) (by omega) (by omega)
theorem smark0 (a b : Int) (T : List S86) (c : Int) (G : List S41) (B : List Bool) (hT : T.length ≤ 1048576) (hB : B.length ≤ 1048576) (hD : ∀ j : Int, 0 ≤ j → j < T.length → (rd_T86 T j).f4.length ≤ 1048576) (d : Nat) : ∀ (k : Nat) (x i : Int), 1048578 + 1048578 * d ≤ k → 0 ≤ i → (T.length : Int) - i = d →
    spec_BatMark.l0 k x i a b T c G B = some (bm B B.length 0 (tm T d i x)) := by
  induction d with
  | zero =>
    intro k x i hk h0 hd
    rw [show k = (k - 1) + 1 by omega, spec_BatMark.l0]
    simp only [tm]
    rw [if_neg (by omega)]
    have := smark2 a b T c G B hB B.length (k - 1 - 1 - B.length) x 0 (by omega) (by omega)
    rwa [show k - 1 - 1 - B.length + 1 + B.length = k - 1 by omega] at this
  | succ d ih =>
    intro k x i hk h0 hd
    have hq := hD i h0 (by omega)
    rw [show k = (k - 1) + 1 by omega, spec_BatMark.l0]
    simp only [tm, mix_eq, Option.bind_some]
    rw [if_pos (by omega), if_pos h0]
    generalize rd_T86 T i = t at *
    generalize mix (mix (mix (mix x t.f1) t.f2.f0) t.f2.f1) t.f3 = y
    have := smark1 a b T c G B t.f0.f0 t.f0.f1.f0 t.f0.f1.f1 t.f0.f2.f0 t.f0.f2.f1 t.f0.f3 t.f1 t.f2.f0 t.f2.f1 t.f3 t.f4 hq i t.f4.length (k - 1 - 1 - t.f4.length) y 0 (by omega) (by omega)
    rw [show k - 1 - 1 - t.f4.length + 1 + t.f4.length = k - 1 by omega] at this
    rw [this, wr (x := i + 1) (by omega) (by omega)]
    exact ih _ _ (i + 1) (by omega) (by omega) (by omega)
def bmark (a : Int) (T : List S86) (B : List Bool) : Int := bm B B.length 0 (tm T T.length 0 (mix 1 a))
theorem smark (a b : Int) (T : List S86) (c : Int) (G : List S41) (B : List Bool) (hT : T.length ≤ 1048576) (hB : B.length ≤ 1048576) (hD : ∀ j : Int, 0 ≤ j → j < T.length → (rd_T86 T j).f4.length ≤ 1048576) (k : Nat) (hk : 1099514980000 ≤ k) :
    spec_BatMark.f k a b T c G B = some (bmark a T B) := by
  unfold spec_BatMark.f
  simp only [mix_eq, Option.bind_some]
  exact smark0 a b T c G B hT hB hD T.length k _ 0 (by omega) (by omega) (by omega)
theorem imark2 (B : List Bool) (hB : B.length ≤ 1048576) (d : Nat) : ∀ (k : Nat) (x i : Int), 101 ≤ k → 0 ≤ i → (B.length : Int) - i = d → impl_BatMark.l2 (k + 1 + d) x B (B.length : Int) i = some (bm B d i x) := by
  induction d with
  | zero =>
    intro k x i hk h0 hd
    simp only [Nat.add_zero, impl_BatMark.l2, bm]
    rw [if_neg (by omega)]
  | succ d ih =>
    intro k x i hk h0 hd
    rw [show k + 1 + (d + 1) = (k + 1 + d) + 1 by omega]
    simp only [impl_BatMark.l2, bm]
    rw [mixed1 _ (by omega)]
    simp only [Option.bind_some]
    rw [mixed1 _ (by omega)]
    simp only [Option.bind_some]
    rw [if_pos (by omega), if_pos h0, if_pos (by omega), wr (x := i + 1) (by omega) (by omega), ih k _ (i + 1) hk (by omega) (by omega), ih k _ (i + 1) hk (by omega) (by omega)]
    split <;> rfl
theorem imark1 (a b : Int) (T T' : List S86) (n : Int) (c : Int) (G : List S41) (B : List Bool) (D : List S81) (hD : D.length ≤ 1048576) (i : Int) (d : Nat) : ∀ (k : Nat) (x j : Int), 101 ≤ k → 0 ≤ j → (D.length : Int) - j = d →
    impl_BatMark.l1 (k + 1 + d) x T' n i D (D.length : Int) j a b T c G B = impl_BatMark.l0 k (dm D d j x) T' n (wrap64 (i + 1)) a b T c G B := by
  induction d with
  | zero =>
    intro k x j hk h0 hd
    rw [Nat.add_zero, impl_BatMark.l1]
    simp only [dm]
    rw [if_neg (by omega)]
  | succ d ih =>
    intro k x j hk h0 hd
    rw [show k + 1 + (d + 1) = (k + 1 + d) + 1 by omega, impl_BatMark.l1]
    rw [mixed2 _ (by omega)]
    simp only [dm, Option.bind_some]
    rw [if_pos (by omega), if_pos h0, if_pos (by omega), wr (x := j + 1) (by omega) (by omega)]
    exact ih k _ (j + 1) hk (by omega) (by omega)
theorem imark0 (a b : Int) (T : List S86) (c : Int) (G : List S41) (B : List Bool) (hT : T.length ≤ 1048576) (hB : B.length ≤ 1048576) (hD : ∀ j : Int, 0 ≤ j → j < T.length → (rd_T86 T j).f4.length ≤ 1048576) (d : Nat) : ∀ (k : Nat) (x i : Int), 1048679 + 1048578 * d ≤ k → 0 ≤ i → (T.length : Int) - i = d →
    impl_BatMark.l0 k x T (T.length : Int) i a b T c G B = some (bm B B.length 0 (tm T d i x)) := by
  induction d with
  | zero =>
    intro k x i hk h0 hd
    rw [show k = (k - 1) + 1 by omega, impl_BatMark.l0]
    simp only [tm]
    rw [if_neg (by omega)]
    have := imark2 B hB B.length (k - 1 - 1 - B.length) x 0 (by omega) (by omega) (by omega)
    rwa [show k - 1 - 1 - B.length + 1 + B.length = k - 1 by omega] at this
  | succ d ih =>
    intro k x i hk h0 hd
    have hq := hD i h0 (by omega)
    rw [show k = (k - 1) + 1 by omega, impl_BatMark.l0]
    rw [mixed4 _ (by omega)]
    simp only [tm, Option.bind_some]
    rw [if_pos (by omega), if_pos h0, if_pos (by omega)]
    generalize rd_T86 T i = t at *
    generalize mix (mix (mix (mix x t.f1) t.f2.f0) t.f2.f1) t.f3 = y
    have := imark1 a b T T (T.length : Int) c G B t.f4 hq i t.f4.length (k - 1 - 1 - t.f4.length) y 0 (by omega) (by omega) (by omega)
    rw [show k - 1 - 1 - t.f4.length + 1 + t.f4.length = k - 1 by omega] at this
    rw [this, wr (x := i + 1) (by omega) (by omega)]
    exact ih _ _ (i + 1) (by omega) (by omega) (by omega)
theorem imark (a b : Int) (T : List S86) (c : Int) (G : List S41) (B : List Bool) (hT : T.length ≤ 1048576) (hB : B.length ≤ 1048576) (hD : ∀ j : Int, 0 ≤ j → j < T.length → (rd_T86 T j).f4.length ≤ 1048576) (k : Nat) (hk : 1099514980000 ≤ k) :
    impl_BatMark.f k a b T c G B = some (bmark a T B) := by
  unfold impl_BatMark.f
  rw [mixed1 _ (by omega)]
  simp only [Option.bind_some]
  exact imark0 a b T c G B hT hB hD T.length k _ 0 (by omega) (by omega) (by omega)
theorem conv_rd (l : List S153) (j : Int) (h0 : 0 ≤ j) (h : j < l.length) : rd_T86 (l.map convTst) j = convTst (rd_T153 l j) := by
  unfold rd_T86 rd_T153
  rw [List.getD_eq_getElem?_getD, List.getD_eq_getElem?_getD, List.getElem?_map, List.getElem?_eq_getElem (by omega)]
  rfl
theorem conv_fits (l : List S153) (h : ∀ j : Int, 0 ≤ j → j < l.length → (rd_T153 l j).f4.length ≤ 1048576) : ∀ j : Int, 0 ≤ j → j < (l.map convTst).length → (rd_T86 (l.map convTst) j).f4.length ≤ 1048576 := by
  intro j h0 h1
  rw [List.length_map] at h1
  rw [conv_rd l j h0 h1]
  unfold convTst
  rw [List.length_map]
  exact h j h0 h1
theorem to_batch (a b : Int) (T : List S153) (c : Int) (G : List S156) (B : List Bool) (hF : Fits T G B) (k : Nat) (hk : 2097154 ≤ k) : laws_toBatBatch.f k a b T c G B = some (a, b, T.map convTst, c, G.map convSig, B.map id) := by
  obtain ⟨h1, h2, h3, h4⟩ := hF
  unfold laws_toBatBatch.f
  rw [to_tests T h1 h4 k (by omega), to_sigs G h2 k (by omega), to_bools B h3 k (by omega)]
  rfl
theorem eq_batch (a b : Int) (T : List S86) (c : Int) (G : List S41) (B : List Bool) (h1 : T.length ≤ 1048576) (h2 : G.length ≤ 1048576) (h3 : B.length ≤ 1048576) (h4 : ∀ j : Int, 0 ≤ j → j < T.length → (rd_T86 T j).f4.length ≤ 1048576) (k : Nat) (hk : 2097154 ≤ k) : laws_eqBatBatch.f k a b T c G B a b T c G B = some true := by
  unfold laws_eqBatBatch.f
  rw [eq_tests T h1 h4 k (by omega), eq_sigs G h2 k (by omega), eq_bools B h3 k (by omega)]
  simp only [Option.bind_some, if_true]
def sg (l : List S41) (r u m : Int) : Nat → Int → Int
  | 0, _ => 0
  | n + 1, i => if (rd_T41 l i).f1 = r ∧ (rd_T41 l i).f2 = m ∧ (rd_T41 l i).f0 ≠ u then (rd_T41 l i).f0 else sg l r u m n (i + 1)
theorem ssigned (r u a b : Int) (T : List S86) (c : Int) (G : List S41) (B : List Bool) (hG : G.length ≤ 1048576) (m : Int) (hm : ∀ k, 1099514980000 ≤ k → spec_BatMark.f k a b T c G B = some m) (d : Nat) : ∀ (k : Nat) (i : Int), 1099514980001 + 2 * d ≤ k → 0 ≤ i → (G.length : Int) - i = d →
    spec_BatSigned.l0 k r u i a b T c G B = some (sg G r u m d i) := by
  induction d with
  | zero =>
    intro k i hk h0 hd
    rw [show k = (k - 1) + 1 by omega, spec_BatSigned.l0]
    simp only [sg]
    rw [if_neg (by omega)]
  | succ d ih =>
    intro k i hk h0 hd
    obtain ⟨q, rfl⟩ : ∃ q, k = q + 1 + 1 := ⟨k - 2, by omega⟩
    have hi := ih q (i + 1) (by omega) (by omega) (by omega)
    rw [spec_BatSigned.l0]
    simp only [sg]
    rw [if_pos (show i < (G.length : Int) by omega), if_pos h0]
    have jf : spec_BatSigned.j1 (q + 1) r u i false a b T c G B = some (sg G r u m d (i + 1)) := by
      rw [spec_BatSigned.j1, if_neg (by simp), wr (x := i + 1) (by omega) (by omega)]
      exact hi
    have jt : spec_BatSigned.j1 (q + 1) r u i true a b T c G B = some ((rd_T41 G i).f0) := by
      rw [spec_BatSigned.j1, if_pos rfl, if_pos h0, if_pos (show i < (G.length : Int) by omega)]
    generalize rd_T41 G i = s at *
    rw [hm (q + 1) (by omega)]
    simp only [Option.bind_some]
    by_cases e1 : s.f1 = r
    · by_cases e2 : s.f0 = u
      · rw [if_pos e1, if_pos e2, if_neg (fun z => z.2.2 e2), jf]
      · by_cases e3 : s.f2 = m
        · rw [if_pos e1, if_neg e2, if_pos ⟨e1, e3, e2⟩, show (s.f2 == m) = true by simp [e3], jt]
        · rw [if_pos e1, if_neg e2, if_neg (fun z => e3 z.2.1), show (s.f2 == m) = false by simp [e3], jf]
    · rw [if_neg e1, if_neg (fun z => e1 z.1), jf]
theorem isigned (r u m : Int) (G : List S41) (hG : G.length ≤ 1048576) (d : Nat) : ∀ (k : Nat) (i : Int), 1 + 2 * d ≤ k → 0 ≤ i → (G.length : Int) - i = d →
    impl_BatSigned.l0 k r u m G (G.length : Int) i = some (sg G r u m d i) := by
  induction d with
  | zero =>
    intro k i hk h0 hd
    rw [show k = (k - 1) + 1 by omega, impl_BatSigned.l0]
    simp only [sg]
    rw [if_neg (by omega)]
  | succ d ih =>
    intro k i hk h0 hd
    obtain ⟨q, rfl⟩ : ∃ q, k = q + 1 + 1 := ⟨k - 2, by omega⟩
    have hi := ih q (i + 1) (by omega) (by omega) (by omega)
    rw [impl_BatSigned.l0]
    simp only [sg]
    rw [if_pos (show i < (G.length : Int) by omega), if_pos h0, if_pos (show i < (G.length : Int) by omega)]
    generalize rd_T41 G i = s at *
    have jf : impl_BatSigned.j1 (q + 1) r u m G (G.length : Int) i false s.f0 s.f1 s.f2 = some (sg G r u m d (i + 1)) := by
      rw [impl_BatSigned.j1, if_neg (by simp), wr (x := i + 1) (by omega) (by omega)]
      exact hi
    have jt : impl_BatSigned.j1 (q + 1) r u m G (G.length : Int) i true s.f0 s.f1 s.f2 = some s.f0 := by
      rw [impl_BatSigned.j1, if_pos rfl]
    by_cases e1 : s.f1 = r
    · by_cases e3 : s.f2 = m
      · by_cases e2 : s.f0 = u
        · rw [if_pos e1, if_pos e3, if_neg (fun z => z.2.2 e2), show (s.f0 != u) = false by simp [e2], jf]
        · rw [if_pos e1, if_pos e3, if_pos ⟨e1, e3, e2⟩, show (s.f0 != u) = true by simp [e2], jt]
      · rw [if_pos e1, if_neg e3, if_neg (fun z => e3 z.2.1), jf]
    · rw [if_neg e1, if_neg (fun z => e1 z.1), jf]
theorem FnExactBatSigned : laws_FnExactBatSigned.Pure := by
  intro a b T c G B r u _ _ hT _ hG hB _ _
  have b1 : T.length ≤ 9223372036854775807 := Nat.le_trans hT.1 (by decide)
  have b2 : G.length ≤ 9223372036854775807 := Nat.le_trans hG.1 (by decide)
  have b3 : B.length ≤ 9223372036854775807 := Nat.le_trans hB.1 (by decide)
  have b4 : ∀ z ∈ T, z.f4.length ≤ 9223372036854775807 := fun z hz => Nat.le_trans (hT.2 z hz).2.2.2.2.1 (by decide)
  clear hT hG hB
  obtain ⟨s, hs, es⟩ := sz_batch a b T c G B b1 b4 b2 b3
  clear b1 b2 b3 b4
  obtain ⟨k, hk⟩ : ∃ k, 1099518000000 ≤ k := ⟨_, Nat.le_refl _⟩
  refine ⟨k, ?_⟩
  have e := es k (by omega)
  rcases hs with rfl | ⟨h0, hF⟩
  · unfold laws_FnExactBatSigned.f
    rw [e]
    rfl
  · have t := to_batch a b T c G B hF k (by omega)
    obtain ⟨h1, h2, h3, h4⟩ := hF
    have h1 : (T.map convTst).length ≤ 1048576 := by rw [List.length_map]; exact h1
    have h2 : (G.map convSig).length ≤ 1048576 := by rw [List.length_map]; exact h2
    have h3 : (B.map id).length ≤ 1048576 := by rw [List.length_map]; exact h3
    have h4 := conv_fits T h4
    generalize T.map convTst = T' at *
    generalize G.map convSig = G' at *
    generalize B.map id = B' at *
    have q := eq_batch a b T' c G' B' h1 h2 h3 h4 k (by omega)
    have s1 : spec_BatSigned.f k a b T' c G' B' r u = some (sg G' r u (bmark a T' B') G'.length 0) := ssigned r u a b T' c G' B' h2 (bmark a T' B') (fun z hz => smark a b T' c G' B' h1 h3 h4 z hz) G'.length k 0 (by omega) (by omega) (by omega)
    have s2 : impl_BatSigned.f k a b T' c G' B' r u = some (sg G' r u (bmark a T' B') G'.length 0) := by
      unfold impl_BatSigned.f
      rw [imark a b T' c G' B' h1 h3 h4 k (by omega)]
      exact isigned r u (bmark a T' B') G' h2 G'.length k 0 (by omega) (by omega) (by omega)
    unfold laws_FnExactBatSigned.f
    rw [e]
    simp only [Option.bind_some, t, s1, s2, q, if_true]
    rw [if_neg (by omega)]

end Go.Proofs.Ythebfdgnahfhgaa.Pure
