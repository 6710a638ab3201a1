/- DayPlus of the program answers as the reference, for every day and number: the law's pure statement; no conditions. -/
import Derived.Test.YtmffjnipolicpaaAllx0
import Derived.Test.YtmffjnipolicpaaAllx2
import Derived.Test.YtmffjnipolicpaaAllx5
import Derived.Test.YtmffjnipolicpaaOpen
import Derived.Test.YtmffjnipolicpaaLemPlus
set_option linter.unusedVariables false
set_option linter.unusedSimpArgs false
namespace Go.Proofs.Ytmffjnipolicpaa.Pure
open Go.RowKit Go.Proofs.Ytmffjnipolicpaa.All Go.Proofs.YtmffjnipolicpaaW.PrintWords Go.Proofs.YtmffjnipolicpaaW.PrintLast Go.Proofs.YtmffjnipolicpaaW.PrintMore

theorem FnExactDayPlus : laws_FnExactDayPlus.Pure := by
  intro a b c k _ _ _ hk
  refine ⟨5, ?_⟩
  unfold laws_FnExactDayPlus.f laws_toDayDay.f
  simp only [Option.bind_some, spec_plus 0 a b c k (wf64 hk), impl_plus 4 a b c k (wf64 hk)]
  unfold laws_eqDayDay.f
  simp

end Go.Proofs.Ytmffjnipolicpaa.Pure
