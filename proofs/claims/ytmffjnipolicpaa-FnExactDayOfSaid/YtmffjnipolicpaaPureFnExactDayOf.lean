/- DayOf of the program answers as the reference, for every whole number: the law's pure statement; no conditions. -/
import Derived.Test.YtmffjnipolicpaaAllx0
import Derived.Test.YtmffjnipolicpaaAllx10
import Derived.Test.YtmffjnipolicpaaAllx5
import Derived.Test.YtmffjnipolicpaaLemOf
set_option linter.unusedVariables false
set_option linter.unusedSimpArgs false
namespace Go.Proofs.Ytmffjnipolicpaa.Pure
open Go.RowKit Go.Proofs.Ytmffjnipolicpaa.All Go.Proofs.YtmffjnipolicpaaW.PrintWords Go.Proofs.YtmffjnipolicpaaW.PrintLast Go.Proofs.YtmffjnipolicpaaW.PrintMore

theorem FnExactDayOf : laws_FnExactDayOf.Pure := by
  intro n _
  obtain ⟨y, m, d, h, e⟩ := spec_of n
  obtain ⟨y2, m2, d2, h2, e2⟩ := impl_of n
  obtain ⟨rfl, rfl, rfl⟩ := isOf_one h h2
  refine ⟨700, ?_⟩
  unfold laws_FnExactDayOf.f
  simp only [e 0, e2 380, Option.bind_some]
  unfold laws_eqDayDay.f
  simp

end Go.Proofs.Ytmffjnipolicpaa.Pure
