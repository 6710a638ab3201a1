/- StoAbout of the program answers as the reference, at a request of its own room: the law's pure statement; no conditions. -/
import Derived.Test.YtdcdcokofcfkoaaAllx0
import Derived.Test.YtdcdcokofcfkoaaAllx14
import Derived.Test.YtdcdcokofcfkoaaAllx15
import Derived.Test.YtdcdcokofcfkoaaAllx16
import Derived.Test.YtdcdcokofcfkoaaAllx2
import Derived.Test.YtdcdcokofcfkoaaAllx5
import Derived.Test.YtdcdcokofcfkoaaAllx7
import Derived.Test.YtdcdcokofcfkoaaAllx9
import Derived.Test.YtdcdcokofcfkoaaSaysFnExactStoAbout
set_option linter.unusedVariables false
set_option linter.unusedSimpArgs false
namespace Go.Proofs.Ytdcdcokofcfkoaa.Pure
open Go.RowKit Go.Proofs.Ytdcdcokofcfkoaa.All Go.Proofs.YtdcdcokofcfkoaaW.PrintWords Go.Proofs.YtdcdcokofcfkoaaW.PrintLast Go.Proofs.YtdcdcokofcfkoaaW.PrintMore

theorem wr {x : Int} (h1 : -9223372036854775808 ≤ x) (h2 : x ≤ 9223372036854775807) : wrap64 x = x := by unfold wrap64; omega
theorem in_impl (a b c : Int) : impl_in.f a b c = some (decide (b ≤ a ∧ a ≤ c)) := by
  unfold impl_in.f
  by_cases h : a ≥ b
  · rw [if_pos h]; simp [show b ≤ a from h]
  · rw [if_neg h]; simp [show ¬ b ≤ a from h]
theorem in_spec (a b c : Int) : spec_l1In.f a b c = some (decide (b ≤ a ∧ a ≤ c)) := by
  unfold spec_l1In.f
  by_cases h : a ≥ b
  · rw [if_pos h]; simp [show b ≤ a from h]
  · rw [if_neg h]; simp [show ¬ b ≤ a from h]
def convT (s : S43) : S32 := ⟨s.f0, ⟨s.f1.f0, s.f1.f1⟩, ⟨s.f2.f0, s.f2.f1⟩, s.f3⟩
theorem toTests_loop (l : List S43) (hl : l.length ≤ 1048576) (d : Nat) : ∀ (k : Nat) (x : List S32) (i : Nat), x.length = l.length → l.length - i = d → i ≤ l.length → (∀ j, j < i → x[j]? = (l.map convT)[j]?) → laws_toSpcTestS.l0 (k + 1 + d) l x i = some (l.map convT) := by
  induction d with
  | zero =>
    intro k x i hx hd hi hM
    simp only [Nat.add_zero, laws_toSpcTestS.l0]
    rw [if_neg (by omega)]
    congr 1
    apply List.ext_getElem?
    intro j
    by_cases hj : j < l.length
    · exact hM j (by omega)
    · rw [List.getElem?_eq_none (by omega), List.getElem?_eq_none (by simp; omega)]
  | succ d ih =>
    intro k x i hx hd hi hM
    rw [show k + 1 + (d + 1) = (k + 1 + d) + 1 by omega]
    simp only [laws_toSpcTestS.l0, laws_toSpcTest.f, laws_toDecDec.f, Option.bind_some]
    rw [if_pos (by omega), if_pos (by omega), if_pos (by omega), wr (x := (i : Int) + 1) (by omega) (by omega)]
    have := ih k (x.set (i : Int).toNat (convT (rd_T43 l i))) (i + 1) (by simp [hx]) (by omega) (by omega) (by
      intro j hj
      rw [Int.toNat_natCast, List.getElem?_set]
      by_cases e : i = j
      · subst e
        rw [if_pos rfl, if_pos (by omega), List.getElem?_map, List.getElem?_eq_getElem (by omega)]
        unfold rd_T43
        rw [List.getD_eq_getElem?_getD, Int.toNat_natCast, List.getElem?_eq_getElem (by omega)]
        rfl
      · rw [if_neg e]
        exact hM j (by omega))
    exact this
theorem to_tests (l : List S43) (hl : l.length ≤ 1048576) (k : Nat) (hk : l.length + 1 ≤ k) : laws_toSpcTestS.f k l = some (l.map convT) := by
  unfold laws_toSpcTestS.f
  rw [if_pos (by omega), if_pos (by omega)]
  have := toTests_loop l hl l.length (k - 1 - l.length) (List.replicate ((l.length : Int) : Int).toNat z32) 0 (by simp) (by omega) (by omega) (by omega)
  rwa [show k - 1 - l.length + 1 + l.length = k by omega] at this
theorem eqTests_loop (l : List S32) (hl : l.length ≤ 4611686018427387904) (d : Nat) : ∀ (k : Nat) (i : Int), 0 ≤ i → (l.length : Int) - i = d → laws_eqSpcTestS.l0 (k + 1 + d) l l i = some true := by
  induction d with
  | zero =>
    intro k i h0 hd
    simp only [Nat.add_zero, laws_eqSpcTestS.l0]
    rw [if_neg (by omega)]
  | succ d ih =>
    intro k i h0 hd
    rw [show k + 1 + (d + 1) = (k + 1 + d) + 1 by omega]
    simp only [laws_eqSpcTestS.l0, laws_eqSpcTest.f, laws_eqDecDec.f, if_true, Option.bind_some]
    rw [if_pos (show i < (l.length : Int) by omega), if_pos h0, if_pos (show i < (l.length : Int) by omega), wr (x := i + 1) (by omega) (by omega)]
    exact ih k (i + 1) (by omega) (by omega)
theorem eqTests_self (l : List S32) (hl : l.length ≤ 4611686018427387904) (k : Nat) (hk : l.length + 1 ≤ k) : laws_eqSpcTestS.f k l l = some true := by
  unfold laws_eqSpcTestS.f
  rw [if_pos rfl]
  have := eqTests_loop l hl l.length (k - 1 - l.length) 0 (by omega) (by omega)
  rwa [show k - 1 - l.length + 1 + l.length = k by omega] at this
theorem FnExactStoAbout : laws_FnExactStoAbout.Pure := by
  intro a b c d e f g l _ _ hc _ _ _ _ hl
  have big : l.length ≤ 9223372036854775807 := Nat.le_trans hl.1 (by decide)
  have hsz : l.length ≤ 1048576 ∧ laws_szReqReq.f a b c d e f g l 1048576 = some ((1048576 : Int) - (l.length : Int)) ∨ laws_szReqReq.f a b c d e f g l 1048576 = some (-1) := by
    unfold laws_szReqReq.f laws_szSpcTestS.f
    rw [wr (x := 1048576 - (l.length : Int)) (by omega) (by omega)]
    by_cases h : (1048576 - (l.length : Int)) < 0
    · rw [if_pos h]
      exact Or.inr rfl
    · rw [if_neg h]
      refine Or.inl ⟨by omega, ?_⟩
      simp only [Option.bind_some]
      rw [if_neg h]
  rcases hsz with ⟨h1, e1⟩ | e1
  · refine ⟨l.length + 3 + 1, ?_⟩
    have t := to_tests l h1 (l.length + 3 + 1) (by omega)
    have q := eqTests_self (l.map convT) (by simp; omega) (l.length + 3 + 1) (by simp)
    generalize l.map convT = L at *
    have tr : laws_toReqReq.f (l.length + 3 + 1) a b c d e f g l = some (a, b, c, d, e, f, g, L) := by
      unfold laws_toReqReq.f laws_toDecDec.f
      simp only [Option.bind_some, t]
    have qr : laws_eqReqReq.f (l.length + 3 + 1) a b c d e f g L a b c d e f g L = some true := by
      unfold laws_eqReqReq.f laws_eqDecDec.f
      simp only [Option.bind_some, if_true, q]
    have s : ∃ v, spec_StoAbout.f (l.length + 3 + 1) a b c d e f g L = some v ∧ impl_StoAbout.f (l.length + 3 + 1) a b c d e f g L = some v := by
      unfold spec_StoAbout.f impl_StoAbout.f
      generalize l.length + 3 = z
      simp only [in_spec, in_impl, Option.bind_some, spec_StoAbout.j0, impl_StoAbout.j0, decide_eq_true_eq]
      by_cases h : 1 ≤ b ∧ b ≤ 3
      · refine ⟨0, ?_, ?_⟩
        · rcases (by omega : b = 1 ∨ b = 2 ∨ b = 3) with rfl | rfl | rfl <;> simp
        · rw [if_pos h, if_pos trivial]
      · refine ⟨if (!decide (0 ≤ c ∧ c ≤ 3)) = true then 0 else wrap64 (c + 1), ?_, ?_⟩
        · rw [if_neg (by omega), if_neg (by omega), if_neg (by omega)]
          split <;> rfl
        · rw [if_neg h]
          split <;> rfl
    obtain ⟨v, s1, s2⟩ := s
    unfold laws_FnExactStoAbout.f
    rw [e1]
    simp only [Option.bind_some, tr, qr, s1, s2, if_true]
    rw [if_neg (by omega)]
  · refine ⟨0, ?_⟩
    unfold laws_FnExactStoAbout.f
    rw [e1]
    simp only [Option.bind_some]
    rw [if_pos (by omega)]

end Go.Proofs.Ytdcdcokofcfkoaa.Pure
