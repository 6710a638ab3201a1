/- SmpCount of the program answers as the reference, for every whole number: the law's pure statement; no conditions. -/
import Derived.Test.YtcollniblajhiaaAllx0
import Derived.Test.YtcollniblajhiaaAllx3
import Derived.Test.YtcollniblajhiaaLemA
set_option linter.unusedVariables false
set_option linter.unusedSimpArgs false
namespace Go.Proofs.Ytcollniblajhiaa.Pure
open Go.RowKit Go.Proofs.Ytcollniblajhiaa.All Go.Proofs.YtcollniblajhiaaW.PrintWords Go.Proofs.YtcollniblajhiaaW.PrintLast Go.Proofs.YtcollniblajhiaaW.PrintMore

theorem FnExactSmpCount : laws_FnExactSmpCount.Pure := by
  intro a _
  obtain ⟨s, _, ⟨K1, h1⟩, ⟨K2, h2⟩⟩ := count_any a
  dsimp only at h1 h2
  refine ⟨max K1 K2, ?_⟩
  unfold laws_FnExactSmpCount.f
  rw [h1 _ (by omega), h2 _ (by omega)]
  simp

end Go.Proofs.Ytcollniblajhiaa.Pure
