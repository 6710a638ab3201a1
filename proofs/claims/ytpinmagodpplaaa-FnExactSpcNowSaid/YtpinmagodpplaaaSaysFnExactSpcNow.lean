-- Written by the session's own program wip/allprint.py, which drives the kit's print; Lean checks it.
import Derived.Test.YtpinmagodpplaaaOpen
import Derived.Test.YtpinmagodpplaaaAllx18
namespace Go.Proofs.Ytpinmagodpplaaa.All
open Go.RowKit Go.Proofs.YtpinmagodpplaaaW.PrintWords Go.Proofs.YtpinmagodpplaaaW.PrintLast
set_option linter.unusedVariables false
def laws_FnExactSpcNow.Pure : Prop := ∀ (l0 : List (S76)), (l0.length ≤ maxLen ∧ ∀ z_ ∈ l0, G76 z_) → ∃ k, laws_FnExactSpcNow.f k l0 = some true
end Go.Proofs.Ytpinmagodpplaaa.All
