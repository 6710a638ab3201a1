/- SmpPick of the program answers as the reference, for every whole number, in memory of its own: the law's pure statement; no conditions. -/
import Derived.Test.YtmffjnipolicpaaAllx0
import Derived.Test.YtmffjnipolicpaaAllx8
import Derived.Test.YtmffjnipolicpaaLemSmp
import Derived.Test.YtmffjnipolicpaaLemInts
set_option linter.unusedVariables false
set_option linter.unusedSimpArgs false
namespace Go.Proofs.Ytmffjnipolicpaa.Pure
open Go.RowKit Go.Proofs.Ytmffjnipolicpaa.All Go.Proofs.YtmffjnipolicpaaW.PrintWords Go.Proofs.YtmffjnipolicpaaW.PrintLast Go.Proofs.YtmffjnipolicpaaW.PrintMore

theorem FnExactSmpPick : laws_FnExactSmpPick.Pure := by
  intro n _
  obtain ⟨c, hc, ⟨K1, e1⟩, ⟨K2, e2⟩, _, _⟩ := pick_any2 n
  dsimp only at e1 e2
  have hb := count_bound n c hc
  have hl := picks_length n c c.toNat
  obtain ⟨l', hl', em, eh⟩ := mark_ints (picks n c c.toNat) 1 (by omega) (by omega)
  generalize picks n c c.toNat = l at *
  refine ⟨max K1 K2 + 200, ?_⟩
  unfold laws_FnExactSmpPick.f
  have q := eqInts_self l (by omega) (max K1 K2 + 200) (by omega)
  simp only [e1 _ (show K1 ≤ max K1 K2 + 200 by omega), e2 _ (show K2 ≤ max K1 K2 + 200 by omega), Option.bind_some, q, if_true, em _ (show l.length + 1 ≤ max K1 K2 + 200 by omega), eh _ (show l.length + 1 ≤ max K1 K2 + 200 by omega)]
  rw [if_neg (by omega), if_neg (by omega)]

end Go.Proofs.Ytmffjnipolicpaa.Pure
