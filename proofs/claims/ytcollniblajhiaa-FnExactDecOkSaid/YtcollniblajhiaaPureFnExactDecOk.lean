/- DecOk of the program answers as the reference, for every decimal: the law's pure statement; no conditions. -/
import Derived.Test.YtcollniblajhiaaAllx0
import Derived.Test.YtcollniblajhiaaAllx3
import Derived.Test.YtcollniblajhiaaOpen
import Derived.Test.YtcollniblajhiaaLemA
import Derived.Test.YtcollniblajhiaaLemDec
set_option linter.unusedVariables false
set_option linter.unusedSimpArgs false
namespace Go.Proofs.Ytcollniblajhiaa.Pure
open Go.RowKit Go.Proofs.Ytcollniblajhiaa.All Go.Proofs.YtcollniblajhiaaW.PrintWords Go.Proofs.YtcollniblajhiaaW.PrintLast Go.Proofs.YtcollniblajhiaaW.PrintMore

theorem FnExactDecOk : laws_FnExactDecOk.Pure := by
  intro a b _ _
  refine ⟨4, ?_⟩
  unfold laws_FnExactDecOk.f laws_toDecDec.f
  simp only [Option.bind_some, spec_decok 0, impl_decok 0]
  simp

end Go.Proofs.Ytcollniblajhiaa.Pure
