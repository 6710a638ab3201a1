/- SpcFind of the program answers as the reference, at tests of their own room: the law's pure statement; no conditions. -/
import Derived.Test.YtpinmagodpplaaaAllx0
import Derived.Test.YtpinmagodpplaaaAllx12
import Derived.Test.YtpinmagodpplaaaAllx2
import Derived.Test.YtpinmagodpplaaaAllx4
import Derived.Test.YtpinmagodpplaaaAllx5
import Derived.Test.YtpinmagodpplaaaSaysFnExactSpcFind
set_option linter.unusedVariables false
set_option linter.unusedSimpArgs false
namespace Go.Proofs.Ytpinmagodpplaaa.Pure
open Go.RowKit Go.Proofs.Ytpinmagodpplaaa.All Go.Proofs.YtpinmagodpplaaaW.PrintWords Go.Proofs.YtpinmagodpplaaaW.PrintLast Go.Proofs.YtpinmagodpplaaaW.PrintMore

theorem wr {x : Int} (h1 : -9223372036854775808 ≤ x) (h2 : x ≤ 9223372036854775807) : wrap64 x = x := by unfold wrap64; omega
def convT (s : S66) : S27 := ⟨s.f0, ⟨s.f1.f0, s.f1.f1⟩, ⟨s.f2.f0, s.f2.f1⟩, s.f3⟩
theorem toTests_loop (l : List S66) (hl : l.length ≤ 1048576) (d : Nat) : ∀ (k : Nat) (x : List S27) (i : Nat), x.length = l.length → l.length - i = d → i ≤ l.length → (∀ j, j < i → x[j]? = (l.map convT)[j]?) → laws_toSpcTestS.l0 (k + 1 + d) l x i = some (l.map convT) := by
  induction d with
  | zero =>
    intro k x i hx hd hi hM
    simp only [Nat.add_zero, laws_toSpcTestS.l0]
    rw [if_neg (by omega)]
    congr 1
    apply List.ext_getElem?
    intro j
    by_cases hj : j < l.length
    · exact hM j (by omega)
    · rw [List.getElem?_eq_none (by omega), List.getElem?_eq_none (by simp; omega)]
  | succ d ih =>
    intro k x i hx hd hi hM
    rw [show k + 1 + (d + 1) = (k + 1 + d) + 1 by omega]
    simp only [laws_toSpcTestS.l0, laws_toSpcTest.f, laws_toDecDec.f, Option.bind_some]
    rw [if_pos (by omega), if_pos (by omega), if_pos (by omega), wr (x := (i : Int) + 1) (by omega) (by omega)]
    have := ih k (x.set (i : Int).toNat (convT (rd_T66 l i))) (i + 1) (by simp [hx]) (by omega) (by omega) (by
      intro j hj
      rw [Int.toNat_natCast, List.getElem?_set]
      by_cases e : i = j
      · subst e
        rw [if_pos rfl, if_pos (by omega), List.getElem?_map, List.getElem?_eq_getElem (by omega)]
        unfold rd_T66
        rw [List.getD_eq_getElem?_getD, Int.toNat_natCast, List.getElem?_eq_getElem (by omega)]
        rfl
      · rw [if_neg e]
        exact hM j (by omega))
    exact this
theorem to_tests (l : List S66) (hl : l.length ≤ 1048576) (k : Nat) (hk : l.length + 1 ≤ k) : laws_toSpcTestS.f k l = some (l.map convT) := by
  unfold laws_toSpcTestS.f
  rw [if_pos (by omega), if_pos (by omega)]
  have := toTests_loop l hl l.length (k - 1 - l.length) (List.replicate ((l.length : Int) : Int).toNat z27) 0 (by simp) (by omega) (by omega) (by omega)
  rwa [show k - 1 - l.length + 1 + l.length = k by omega] at this
theorem eqTests_loop (l : List S27) (hl : l.length ≤ 4611686018427387904) (d : Nat) : ∀ (k : Nat) (i : Int), 0 ≤ i → (l.length : Int) - i = d → laws_eqSpcTestS.l0 (k + 1 + d) l l i = some true := by
  induction d with
  | zero =>
    intro k i h0 hd
    simp only [Nat.add_zero, laws_eqSpcTestS.l0]
    rw [if_neg (by omega)]
  | succ d ih =>
    intro k i h0 hd
    rw [show k + 1 + (d + 1) = (k + 1 + d) + 1 by omega]
    simp only [laws_eqSpcTestS.l0, laws_eqSpcTest.f, laws_eqDecDec.f, if_true, Option.bind_some]
    rw [if_pos (show i < (l.length : Int) by omega), if_pos h0, if_pos (show i < (l.length : Int) by omega), wr (x := i + 1) (by omega) (by omega)]
    exact ih k (i + 1) (by omega) (by omega)
theorem eqTests_self (l : List S27) (hl : l.length ≤ 4611686018427387904) (k : Nat) (hk : l.length + 1 ≤ k) : laws_eqSpcTestS.f k l l = some true := by
  unfold laws_eqSpcTestS.f
  rw [if_pos rfl]
  have := eqTests_loop l hl l.length (k - 1 - l.length) 0 (by omega) (by omega)
  rwa [show k - 1 - l.length + 1 + l.length = k by omega] at this
def fd (l : List S27) (t : Int) : Nat → Int → Int
  | 0, _ => -1
  | n + 1, i => if (rd_T27 l i).f0 = t then i else fd l t n (i + 1)
def fr (l : List S27) (j : Int) : Int × Int × Int × Int × Int × Int × Bool := if j < 0 then (0, 0, 0, 0, 0, 0, false) else ((rd_T27 l j).f0, (rd_T27 l j).f1.f0, (rd_T27 l j).f1.f1, (rd_T27 l j).f2.f0, (rd_T27 l j).f2.f1, (rd_T27 l j).f3, true)
theorem fd_range (l : List S27) (t : Int) (d : Nat) : ∀ i : Int, 0 ≤ i → fd l t d i = -1 ∨ (i ≤ fd l t d i ∧ fd l t d i < i + d ∧ (rd_T27 l (fd l t d i)).f0 = t) := by
  induction d with
  | zero => intro i h0; exact Or.inl rfl
  | succ d ih =>
    intro i h0
    simp only [fd]
    by_cases h : (rd_T27 l i).f0 = t
    · rw [if_pos h]; exact Or.inr ⟨by omega, by omega, h⟩
    · rw [if_neg h]
      rcases ih (i + 1) (by omega) with e | ⟨a, b, c⟩
      · exact Or.inl e
      · exact Or.inr ⟨by omega, by omega, c⟩
theorem sfind_loop (l : List S27) (hl : l.length ≤ 4611686018427387904) (t : Int) (d : Nat) : ∀ (k : Nat) (i : Int), 0 ≤ i → (l.length : Int) - i = d → spec_SpcFind.l0 (k + 1 + d) l t i = some (fr l (fd l t d i)) := by
  induction d with
  | zero =>
    intro k i h0 hd
    simp only [Nat.add_zero, spec_SpcFind.l0, fd]
    rw [if_neg (by omega)]
    rfl
  | succ d ih =>
    intro k i h0 hd
    rw [show k + 1 + (d + 1) = (k + 1 + d) + 1 by omega]
    simp only [spec_SpcFind.l0, fd]
    rw [if_pos (by omega), if_pos h0, wr (x := i + 1) (by omega) (by omega)]
    by_cases h : (rd_T27 l i).f0 = t
    · rw [if_pos h, if_pos h, fr, if_neg (by omega)]
    · rw [if_neg h, if_neg h]
      exact ih k (i + 1) (by omega) (by omega)
theorem ifind_loop (l : List S27) (hl : l.length ≤ 4611686018427387904) (t : Int) (d : Nat) : ∀ (k : Nat) (i : Int), 0 ≤ i → (l.length : Int) - i = d → impl_SpcFind.l0 (k + 1 + d) l t i = some (fd l t d i) := by
  induction d with
  | zero =>
    intro k i h0 hd
    simp only [Nat.add_zero, impl_SpcFind.l0, fd]
    rw [if_neg (by omega)]
  | succ d ih =>
    intro k i h0 hd
    rw [show k + 1 + (d + 1) = (k + 1 + d) + 1 by omega]
    simp only [impl_SpcFind.l0, fd]
    rw [if_pos (by omega), if_pos h0, wr (x := i + 1) (by omega) (by omega)]
    by_cases h : (rd_T27 l i).f0 = t
    · rw [if_pos h, if_pos h]
    · rw [if_neg h, if_neg h]
      exact ih k (i + 1) (by omega) (by omega)
theorem sfind (l : List S27) (hl : l.length ≤ 4611686018427387904) (t : Int) (k : Nat) (hk : l.length + 1 ≤ k) : spec_SpcFind.f k l t = some (fr l (fd l t l.length 0)) := by
  have := sfind_loop l hl t l.length (k - 1 - l.length) 0 (by omega) (by omega)
  rwa [show k - 1 - l.length + 1 + l.length = k by omega] at this
theorem ifind (l : List S27) (hl : l.length ≤ 4611686018427387904) (t : Int) (k : Nat) (hk : l.length + 1 ≤ k) : impl_SpcFind.f k l t = some (fr l (fd l t l.length 0)) := by
  have := ifind_loop l hl t l.length (k - 1 - l.length) 0 (by omega) (by omega)
  rw [show k - 1 - l.length + 1 + l.length = k by omega] at this
  unfold impl_SpcFind.f fr
  rw [this]
  simp only [Option.bind_some]
  rcases fd_range l t l.length 0 (by omega) with e | ⟨a, b, c⟩
  · rw [e, if_pos (by omega), if_pos (by omega)]
  · generalize fd l t l.length 0 = j at *
    rw [if_neg (show ¬ j < 0 by omega), if_pos (show j < (l.length : Int) by omega), if_neg (show ¬ j < 0 by omega)]
theorem eqTest_self (a b c d e f : Int) : laws_eqSpcTest.f a b c d e f a b c d e f = some true := by
  unfold laws_eqSpcTest.f laws_eqDecDec.f
  simp
theorem FnExactSpcFind : laws_FnExactSpcFind.Pure := by
  intro l t hl _
  have big : l.length ≤ 9223372036854775807 := Nat.le_trans hl.1 (by decide)
  clear hl
  by_cases h : (1048576 - (l.length : Int)) < 0
  · refine ⟨0, ?_⟩
    unfold laws_FnExactSpcFind.f laws_szSpcTestS.f
    rw [wr (x := 1048576 - (l.length : Int)) (by omega) (by omega), if_pos h]
    simp
  · refine ⟨l.length + 3 + 1, ?_⟩
    have h1 : l.length ≤ 1048576 := by omega
    have t1 := to_tests l h1 (l.length + 3 + 1) (by omega)
    have t2 := to_tests l h1 (l.length + 3) (by omega)
    have hL : (l.map convT).length = l.length := by simp
    have q := eqTests_self (l.map convT) (by omega) (l.length + 3) (by omega)
    have s := sfind (l.map convT) (by omega) t (l.length + 3 + 1) (by omega)
    have i := ifind (l.map convT) (by omega) t (l.length + 3 + 1) (by omega)
    generalize l.map convT = L at *
    generalize fr L (fd L t L.length 0) = T at *
    unfold laws_FnExactSpcFind.f laws_szSpcTestS.f
    rw [wr (x := 1048576 - (l.length : Int)) (by omega) (by omega), if_neg h, t1]
    simp only [Option.bind_some, s, i, eqTest_self, if_true]
    rw [if_neg h, bne_self_eq_false]
    generalize l.length + 3 = z at *
    simp only [laws_FnExactSpcFind.j0, t2, q, Option.bind_some, if_true]
    simp

end Go.Proofs.Ytpinmagodpplaaa.Pure
