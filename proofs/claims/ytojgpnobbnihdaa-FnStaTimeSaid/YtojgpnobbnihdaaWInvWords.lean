-- Cut by this work's own program wip/trim.py out of a text that print.sh laid: what the claim does not reach is left out, nothing else is changed.
import Derived.Test.YtojgpnobbnihdaaWInv
import Derived.Test.YtojgpnobbnihdaaWFootNe
namespace Go.Proofs.YtojgpnobbnihdaaW.PrintWords
open Go.RowKit
end Go.Proofs.YtojgpnobbnihdaaW.PrintWords
namespace Go.Proofs.YtojgpnobbnihdaaW.PrintLast
section
variable {ops : Array Oper} {a : Act} {o og : Oper} {g : Nat} {t : Tmp} {u : Bool}
end
end Go.Proofs.YtojgpnobbnihdaaW.PrintLast
