/- DayOk of the program answers as the reference, for every day: the law's pure statement; no conditions. -/
import Derived.Test.YtcollniblajhiaaAllx0
import Derived.Test.YtcollniblajhiaaAllx3
import Derived.Test.YtcollniblajhiaaOpen
import Derived.Test.YtcollniblajhiaaLemA
set_option linter.unusedVariables false
set_option linter.unusedSimpArgs false
namespace Go.Proofs.Ytcollniblajhiaa.Pure
open Go.RowKit Go.Proofs.Ytcollniblajhiaa.All Go.Proofs.YtcollniblajhiaaW.PrintWords Go.Proofs.YtcollniblajhiaaW.PrintLast Go.Proofs.YtcollniblajhiaaW.PrintMore

theorem FnExactDayOk : laws_FnExactDayOk.Pure := by
  intro a b c _ _ _
  obtain ⟨K, h⟩ := spec_ok a b c
  dsimp only at h
  refine ⟨K, ?_⟩
  unfold laws_FnExactDayOk.f laws_toDayDay.f
  simp only [Option.bind_some, h K (Nat.le_refl _), impl_ok]
  simp

end Go.Proofs.Ytcollniblajhiaa.Pure
