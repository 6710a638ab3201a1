-- Cut by this work's own program wip/trim.py out of a text that print.sh laid: what the claim does not reach is left out, nothing else is changed.
import Derived.Test.YthebfdgnahfhgaaWInv
import Derived.Test.YthebfdgnahfhgaaWFootNe
namespace Go.Proofs.YthebfdgnahfhgaaW.PrintWords
open Go.RowKit
end Go.Proofs.YthebfdgnahfhgaaW.PrintWords
namespace Go.Proofs.YthebfdgnahfhgaaW.PrintLast
section
variable {ops : Array Oper} {a : Act} {o og : Oper} {g : Nat} {t : Tmp} {u : Bool}
end
end Go.Proofs.YthebfdgnahfhgaaW.PrintLast
