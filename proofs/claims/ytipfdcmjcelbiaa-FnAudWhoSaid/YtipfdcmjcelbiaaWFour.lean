-- Cut by this work's own program wip/trim.py out of a text that print.sh laid: what the claim does not reach is left out, nothing else is changed.
import Derived.Test.YtipfdcmjcelbiaaWTab
/-! ### 56. Four, five, six operations that may come up next, in any order -/
namespace Go.Proofs.YtipfdcmjcelbiaaW.PrintLast
section
variable {P : Program} {ops : Array Oper} {Q : Exit → Act → World → Prop} {md : Region.Mode} {S : World → Prop} {ds : List Nat} {T : Bool × List (List Nat × List Nat)}
end
end Go.Proofs.YtipfdcmjcelbiaaW.PrintLast
