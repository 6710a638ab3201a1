/- Each kind is for some roles, and none for all, at every code: the law's pure statement; no conditions. -/
import Derived.Test.YtcollniblajhiaaAllx0
import Derived.Test.YtcollniblajhiaaAllx7
import Derived.Test.YtcollniblajhiaaLemMay
set_option linter.unusedVariables false
set_option linter.unusedSimpArgs false
namespace Go.Proofs.Ytcollniblajhiaa.Pure
open Go.RowKit Go.Proofs.Ytcollniblajhiaa.All Go.Proofs.YtcollniblajhiaaW.PrintWords Go.Proofs.YtcollniblajhiaaW.PrintLast Go.Proofs.YtcollniblajhiaaW.PrintMore

theorem drawMay_ev (l : List Int) (h : ∀ x ∈ l, (Lit.int .u8 x).wf = true) : ∃ r c, 0 ≤ c ∧ c ≤ 13 ∧ Ev (fun k => spec_DrawReqMay.f k l) (r, c) := by
  obtain ⟨b, hb, e0⟩ := open_some l h
  obtain ⟨v1, a1, c1, ⟨K1, e1⟩⟩ := pick_pos b hb 0 6 (by omega) (by omega) (by omega) (by omega)
  dsimp only at e1
  obtain ⟨v2, a2, c2, ⟨K2, e2⟩⟩ := pick_pos b hb 1 14 (by omega) (by omega) (by omega) (by omega)
  dsimp only at e2
  refine ⟨v1, v2, by omega, by omega, max K1 K2, fun k hk => ?_⟩
  unfold spec_DrawReqMay.f
  simp only [e0, Option.bind_some, e1 k (by omega), show (0 : Int) + 1 = 1 from rfl, e2 k (by omega)]
theorem may_loop (c : Int) (h0 : 0 ≤ c) (h1 : c ≤ 13) : ∃ k, laws_FnReqMay.l0 k c 0 (-1) = some true := by
  refine ⟨16, ?_⟩
  rcases (by omega : c = 0 ∨ c = 1 ∨ c = 2 ∨ c = 3 ∨ c = 4 ∨ c = 5 ∨ c = 6 ∨ c = 7 ∨ c = 8 ∨ c = 9 ∨ c = 10 ∨ c = 11 ∨ c = 12 ∨ c = 13) with rfl | rfl | rfl | rfl | rfl | rfl | rfl | rfl | rfl | rfl | rfl | rfl | rfl | rfl
  all_goals decide +kernel
theorem FnReqMay : laws_FnReqMay.Pure := by
  intro l _ _ hx
  by_cases hl : (l.length : Int) > 1048576
  · exact ⟨0, by unfold laws_FnReqMay.f; rw [if_pos hl]⟩
  · obtain ⟨r, c, h0, h1, ⟨K0, e0⟩⟩ := drawMay_ev l hx
    dsimp only at e0
    obtain ⟨K1, e1⟩ : Ev (fun k => laws_FnReqMay.l0 k c 0 (-1)) true := by
      obtain ⟨k, hk⟩ := may_loop c h0 h1
      exact Ev.of (fun k => (laws_FnReqMay.mono_l k).1 _ _ _) hk
    dsimp only at e1
    refine ⟨max K0 K1 + 4, ?_⟩
    unfold laws_FnReqMay.f
    rw [if_neg hl, e0 _ (by omega)]
    simp only [Option.bind_some]
    rw [impl_may (max K0 K1 + 1), spec_may (max K0 K1)]
    simp only [Option.bind_some]
    rw [if_neg (by simp)]
    exact e1 _ (by omega)

end Go.Proofs.Ytcollniblajhiaa.Pure
