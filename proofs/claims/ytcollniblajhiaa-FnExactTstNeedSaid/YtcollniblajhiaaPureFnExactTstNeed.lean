/- TstNeed of the program answers as the reference, for every whole number: the law's pure statement; no conditions. -/
import Derived.Test.YtcollniblajhiaaAllx0
import Derived.Test.YtcollniblajhiaaAllx1
set_option linter.unusedVariables false
set_option linter.unusedSimpArgs false
namespace Go.Proofs.Ytcollniblajhiaa.Pure
open Go.RowKit Go.Proofs.Ytcollniblajhiaa.All Go.Proofs.YtcollniblajhiaaW.PrintWords Go.Proofs.YtcollniblajhiaaW.PrintLast Go.Proofs.YtcollniblajhiaaW.PrintMore

theorem FnExactTstNeed : laws_FnExactTstNeed.Pure := by
  intro a _
  unfold laws_FnExactTstNeed.f spec_TstNeed.f impl_TstNeed.f
  by_cases h1 : a = 1
  · simp [h1]
  · by_cases h2 : a = 2
    · simp [h2]
    · simp [h1, h2]

end Go.Proofs.Ytcollniblajhiaa.Pure
