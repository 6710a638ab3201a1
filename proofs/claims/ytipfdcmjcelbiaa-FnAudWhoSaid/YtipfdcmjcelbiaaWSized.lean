-- Cut by this work's own program wip/trim.py out of a text that print.sh laid: what the claim does not reach is left out, nothing else is changed.
-- PRINTED WORDS (module Derived/Print/Sized.lean): go-gate-2's, for the rows of laws over slices: an AI agent of Go's test side, Tue Nov 17 2026; no person has read it. Lean checks it.
import Derived.SizedLaws
import Derived.ChangeSlices
namespace Go.Proofs.YtipfdcmjcelbiaaW.PrintWords
open Go.ChangeShapes Go.WideShapes
end Go.Proofs.YtipfdcmjcelbiaaW.PrintWords
