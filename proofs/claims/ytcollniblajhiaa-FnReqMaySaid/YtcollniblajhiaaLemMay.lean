/- Plain lemmas about the printed functions of this seat: may. -/
import Derived.Test.YtcollniblajhiaaAllx0
import Derived.Test.YtcollniblajhiaaAllx4
import Derived.Test.YtcollniblajhiaaAllx5
import Derived.Test.YtcollniblajhiaaLemA
set_option linter.unusedVariables false
set_option linter.unusedSimpArgs false
namespace Go.Proofs.Ytcollniblajhiaa.Pure
open Go.RowKit Go.Proofs.Ytcollniblajhiaa.All Go.Proofs.YtcollniblajhiaaW.PrintWords Go.Proofs.YtcollniblajhiaaW.PrintLast Go.Proofs.YtcollniblajhiaaW.PrintMore

/-! ### who may ask -/
def may (r k : Int) : Bool :=
  if k = 1 ∨ k = 2 then r == 4 else if k = 3 ∨ k = 4 ∨ k = 6 ∨ k = 7 then decide (r = 1 ∨ r = 2) else if k = 5 ∨ k = 8 ∨ k = 9 then decide (r = 2 ∨ r = 3) else if k = 10 ∨ k = 11 ∨ k = 12 then r == 3 else false
theorem has1 (k : Nat) (a x : Int) : slices_Contains_int_int.f (k + 2) [a] x = some (x == a) := by
  simp only [slices_Contains_int_int.f, slices_Index_int_int.f, slices_Index_int_int.l0, List.length_singleton, rd]
  by_cases h : x = a <;> simp [h, wrap64]
theorem has2 (k : Nat) (a b x : Int) : slices_Contains_int_int.f (k + 3) [a, b] x = some (decide (x = a ∨ x = b)) := by
  simp only [slices_Contains_int_int.f, slices_Index_int_int.f, slices_Index_int_int.l0, List.length_cons, List.length_nil, rd]
  by_cases h : x = a
  · simp [h, wrap64]
  · by_cases h2 : x = b
    · subst h2; simp [h, wrap64]
    · simp [h, h2, wrap64]
theorem has0 (k : Nat) (x : Int) : slices_Contains_int_int.f (k + 1) [] x = some false := by
  simp only [slices_Contains_int_int.f, slices_Index_int_int.f, slices_Index_int_int.l0, List.length_nil]
  simp
theorem manner_out (k : Int) (h : ¬ (1 ≤ k ∧ k ≤ 12)) : impl_mannerOf.f k = some ((⟨#[]⟩ : ByteArray), ([] : List Int), (⟨#[]⟩ : ByteArray)) := by
  unfold impl_mannerOf.f
  rw [in_impl, decide_eq_false h]
  rfl
theorem impl_may (k : Nat) (r c : Int) : impl_ReqMay.f (k + 3) r c = some (may r c) := by
  by_cases h : 1 ≤ c ∧ c ≤ 12
  · rcases (by omega : c = 1 ∨ c = 2 ∨ c = 3 ∨ c = 4 ∨ c = 5 ∨ c = 6 ∨ c = 7 ∨ c = 8 ∨ c = 9 ∨ c = 10 ∨ c = 11 ∨ c = 12) with rfl | rfl | rfl | rfl | rfl | rfl | rfl | rfl | rfl | rfl | rfl | rfl
    all_goals
      unfold impl_ReqMay.f
      first
        | (show ((slices_Contains_int_int.f (k + 3) [4] r).bind fun t => some t) = _; rw [has1 (k + 1)]; rfl)
        | (show ((slices_Contains_int_int.f (k + 3) [3] r).bind fun t => some t) = _; rw [has1 (k + 1)]; rfl)
        | (show ((slices_Contains_int_int.f (k + 3) [1, 2] r).bind fun t => some t) = _; rw [has2 k]; rfl)
        | (show ((slices_Contains_int_int.f (k + 3) [2, 3] r).bind fun t => some t) = _; rw [has2 k]; rfl)
  · unfold impl_ReqMay.f
    rw [manner_out c h]
    show ((slices_Contains_int_int.f (k + 3) [] r).bind fun t => some t) = _
    rw [has0 (k + 2)]
    unfold may
    rw [if_neg (by omega), if_neg (by omega), if_neg (by omega), if_neg (by omega)]
    rfl
theorem spec_may (k : Nat) (r c : Int) : spec_ReqMay.f (k + 4) r c = some (may r c) := by
  by_cases h : 1 ≤ c ∧ c ≤ 12
  · rcases (by omega : c = 1 ∨ c = 2 ∨ c = 3 ∨ c = 4 ∨ c = 5 ∨ c = 6 ∨ c = 7 ∨ c = 8 ∨ c = 9 ∨ c = 10 ∨ c = 11 ∨ c = 12) with rfl | rfl | rfl | rfl | rfl | rfl | rfl | rfl | rfl | rfl | rfl | rfl
    all_goals simp [spec_ReqMay.f, spec_ReqMay.j0, spec_ReqMay.j1, spec_ReqMay.j2, spec_ReqMay.j3, may]
    all_goals (by_cases e1 : r = 1 <;> by_cases e2 : r = 2 <;> by_cases e3 : r = 3 <;> simp [e1, e2, e3])
  · have hn : ∀ x : Int, 1 ≤ x → x ≤ 12 → c ≠ x := fun x h1 h2 e => h ⟨by omega, by omega⟩
    have g : ∀ x : Int, 1 ≤ x → x ≤ 12 → (c == x) = false := fun x h1 h2 => by simpa using hn x h1 h2
    have n1 := hn 1 (by omega) (by omega); have n2 := hn 2 (by omega) (by omega); have n3 := hn 3 (by omega) (by omega); have n4 := hn 4 (by omega) (by omega)
    have n5 := hn 5 (by omega) (by omega); have n6 := hn 6 (by omega) (by omega); have n7 := hn 7 (by omega) (by omega); have n8 := hn 8 (by omega) (by omega)
    have n9 := hn 9 (by omega) (by omega); have n10 := hn 10 (by omega) (by omega); have n11 := hn 11 (by omega) (by omega); have n12 := hn 12 (by omega) (by omega)
    simp [spec_ReqMay.f, spec_ReqMay.j0, spec_ReqMay.j1, spec_ReqMay.j2, spec_ReqMay.j3, may, n1, n2, n3, n4, n5, n6, n7, n8, n9, n10, n11, n12]

end Go.Proofs.Ytcollniblajhiaa.Pure
