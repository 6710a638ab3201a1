/- DayLeap of the program answers as the reference, for every whole number: the law's pure statement; no conditions. -/
import Derived.Test.YtcollniblajhiaaAllx0
import Derived.Test.YtcollniblajhiaaAllx1
import Derived.Test.YtcollniblajhiaaLemA
set_option linter.unusedVariables false
set_option linter.unusedSimpArgs false
namespace Go.Proofs.Ytcollniblajhiaa.Pure
open Go.RowKit Go.Proofs.Ytcollniblajhiaa.All Go.Proofs.YtcollniblajhiaaW.PrintWords Go.Proofs.YtcollniblajhiaaW.PrintLast Go.Proofs.YtcollniblajhiaaW.PrintMore

theorem FnExactDayLeap : laws_FnExactDayLeap.Pure := by
  intro a _
  unfold laws_FnExactDayLeap.f
  rw [spec_leap, impl_leap]
  simp

end Go.Proofs.Ytcollniblajhiaa.Pure
