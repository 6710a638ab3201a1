/- DayLast of the program answers as the reference, for every two whole numbers: the law's pure statement; no conditions. -/
import Derived.Test.YtcollniblajhiaaAllx0
import Derived.Test.YtcollniblajhiaaAllx2
import Derived.Test.YtcollniblajhiaaLemA
set_option linter.unusedVariables false
set_option linter.unusedSimpArgs false
namespace Go.Proofs.Ytcollniblajhiaa.Pure
open Go.RowKit Go.Proofs.Ytcollniblajhiaa.All Go.Proofs.YtcollniblajhiaaW.PrintWords Go.Proofs.YtcollniblajhiaaW.PrintLast Go.Proofs.YtcollniblajhiaaW.PrintMore

theorem FnExactDayLast : laws_FnExactDayLast.Pure := by
  intro a b _ _
  obtain ⟨K1, h1⟩ := spec_last a b
  dsimp only at h1
  refine ⟨K1, ?_⟩
  unfold laws_FnExactDayLast.f
  rw [h1 _ (by omega), impl_last]
  simp

end Go.Proofs.Ytcollniblajhiaa.Pure
