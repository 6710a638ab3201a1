-- Cut by this work's own program wip/trim.py out of a text that print.sh laid: what the claim does not reach is left out, nothing else is changed.
import Derived.Test.YtcifhhgoippmbaaWInv
import Derived.Test.YtcifhhgoippmbaaWFootNe
namespace Go.Proofs.YtcifhhgoippmbaaW.PrintWords
open Go.RowKit
end Go.Proofs.YtcifhhgoippmbaaW.PrintWords
namespace Go.Proofs.YtcifhhgoippmbaaW.PrintLast
section
variable {ops : Array Oper} {a : Act} {o og : Oper} {g : Nat} {t : Tmp} {u : Bool}
end
end Go.Proofs.YtcifhhgoippmbaaW.PrintLast
