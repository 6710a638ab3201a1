-- Cut by this work's own program wip/trim.py out of a text that print.sh laid: what the claim does not reach is left out, nothing else is changed.
import Derived.Test.YtpbmobgpipmldaaWInv
import Derived.Test.YtpbmobgpipmldaaWFootNe
namespace Go.Proofs.YtpbmobgpipmldaaW.PrintWords
open Go.RowKit
end Go.Proofs.YtpbmobgpipmldaaW.PrintWords
namespace Go.Proofs.YtpbmobgpipmldaaW.PrintLast
section
variable {ops : Array Oper} {a : Act} {o og : Oper} {g : Nat} {t : Tmp} {u : Bool}
end
end Go.Proofs.YtpbmobgpipmldaaW.PrintLast
