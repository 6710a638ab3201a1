/- TstNew of the program answers as the reference, for every spec's test, in memory of its own: the law's pure statement; no conditions. -/
import Derived.Test.YtdcdcokofcfkoaaAllx0
import Derived.Test.YtdcdcokofcfkoaaAllx18
import Derived.Test.YtdcdcokofcfkoaaAllx19
import Derived.Test.YtdcdcokofcfkoaaAllx20
import Derived.Test.YtdcdcokofcfkoaaAllx5
import Derived.Test.YtdcdcokofcfkoaaAllx7
import Derived.Test.YtdcdcokofcfkoaaAllx9
import Derived.Test.YtdcdcokofcfkoaaSaysFnExactTstNew
set_option linter.unusedVariables false
set_option linter.unusedSimpArgs false
namespace Go.Proofs.Ytdcdcokofcfkoaa.Pure
open Go.RowKit Go.Proofs.Ytdcdcokofcfkoaa.All Go.Proofs.YtdcdcokofcfkoaaW.PrintWords Go.Proofs.YtdcdcokofcfkoaaW.PrintLast Go.Proofs.YtdcdcokofcfkoaaW.PrintMore

theorem FnExactTstNew : laws_FnExactTstNew.Pure := by
  intro a b c d e f _ _ _ _ _ _
  refine ⟨12, ?_⟩
  simp [laws_FnExactTstNew.f, laws_toSpcTest.f, laws_toDecDec.f, spec_TstNew.f, impl_TstNew.f, laws_eqTstTest.f, laws_eqSpcTest.f, laws_eqDecDec.f, laws_eqDecDecS.f, laws_eqDecDecS.l0, laws_FnExactTstNew.j0, laws_FnExactTstNew.j1, laws_FnExactTstNew.j2, laws_FnExactTstNew.j3, laws_FnExactTstNew.j4, laws_markTstTest.f, laws_markDecDecS.f, laws_markDecDecS.l0, laws_heldTstTest.f, laws_heldDecDecS.f, laws_heldDecDecS.l0]

end Go.Proofs.Ytdcdcokofcfkoaa.Pure
