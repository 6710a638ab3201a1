-- Cut by this work's own program wip/trim.py out of a text that print.sh laid: what the claim does not reach is left out, nothing else is changed.
import Derived.Test.YtipfdcmjcelbiaaWInv
import Derived.Test.YtipfdcmjcelbiaaWFootNe
namespace Go.Proofs.YtipfdcmjcelbiaaW.PrintWords
open Go.RowKit
end Go.Proofs.YtipfdcmjcelbiaaW.PrintWords
namespace Go.Proofs.YtipfdcmjcelbiaaW.PrintLast
section
variable {ops : Array Oper} {a : Act} {o og : Oper} {g : Nat} {t : Tmp} {u : Bool}
end
end Go.Proofs.YtipfdcmjcelbiaaW.PrintLast
