/- ReqMay of the program answers as the reference, for every two whole numbers: the law's pure statement; no conditions. -/
import Derived.Test.YtcollniblajhiaaAllx0
import Derived.Test.YtcollniblajhiaaAllx5
import Derived.Test.YtcollniblajhiaaLemMay
set_option linter.unusedVariables false
set_option linter.unusedSimpArgs false
namespace Go.Proofs.Ytcollniblajhiaa.Pure
open Go.RowKit Go.Proofs.Ytcollniblajhiaa.All Go.Proofs.YtcollniblajhiaaW.PrintWords Go.Proofs.YtcollniblajhiaaW.PrintLast Go.Proofs.YtcollniblajhiaaW.PrintMore

theorem FnExactReqMay : laws_FnExactReqMay.Pure := by
  intro a b _ _
  refine ⟨4, ?_⟩
  unfold laws_FnExactReqMay.f
  rw [spec_may 0, impl_may 1]
  simp

end Go.Proofs.Ytcollniblajhiaa.Pure
