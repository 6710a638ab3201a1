/- DayNum of the program answers as the reference, for every day: the law's pure statement; no conditions. -/
import Derived.Test.YtmffjnipolicpaaAllx0
import Derived.Test.YtmffjnipolicpaaAllx2
import Derived.Test.YtmffjnipolicpaaAllx3
import Derived.Test.YtmffjnipolicpaaOpen
import Derived.Test.YtmffjnipolicpaaLemDay
set_option linter.unusedVariables false
set_option linter.unusedSimpArgs false
namespace Go.Proofs.Ytmffjnipolicpaa.Pure
open Go.RowKit Go.Proofs.Ytmffjnipolicpaa.All Go.Proofs.YtmffjnipolicpaaW.PrintWords Go.Proofs.YtmffjnipolicpaaW.PrintLast Go.Proofs.YtmffjnipolicpaaW.PrintMore

theorem FnExactDayNum : laws_FnExactDayNum.Pure := by
  intro a b c _ _ _
  refine ⟨400, ?_⟩
  unfold laws_FnExactDayNum.f laws_toDayDay.f
  simp only [Option.bind_some, spec_num 380, impl_num 0]
  simp

end Go.Proofs.Ytmffjnipolicpaa.Pure
