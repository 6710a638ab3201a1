-- Cut by this work's own program wip/trim.py out of a text that print.sh laid: what the claim does not reach is left out, nothing else is changed.
import Derived.Test.YtpbmobgpipmldabWInv
import Derived.Test.YtpbmobgpipmldabWFootNe
namespace Go.Proofs.YtpbmobgpipmldabW.PrintWords
open Go.RowKit
end Go.Proofs.YtpbmobgpipmldabW.PrintWords
namespace Go.Proofs.YtpbmobgpipmldabW.PrintLast
section
variable {ops : Array Oper} {a : Act} {o og : Oper} {g : Nat} {t : Tmp} {u : Bool}
end
end Go.Proofs.YtpbmobgpipmldabW.PrintLast
