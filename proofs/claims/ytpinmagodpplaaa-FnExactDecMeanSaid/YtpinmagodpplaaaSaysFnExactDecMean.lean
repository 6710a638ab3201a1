-- Written by the session's own program wip/allprint.py, which drives the kit's print; Lean checks it.
import Derived.Test.YtpinmagodpplaaaOpen
import Derived.Test.YtpinmagodpplaaaAllx16
namespace Go.Proofs.Ytpinmagodpplaaa.All
open Go.RowKit Go.Proofs.YtpinmagodpplaaaW.PrintWords Go.Proofs.YtpinmagodpplaaaW.PrintLast
set_option linter.unusedVariables false
def laws_FnExactDecMean.Pure : Prop := ∀ (l0 : List (S64)) (a1 : Int), (l0.length ≤ maxLen ∧ ∀ z_ ∈ l0, G64 z_) → ((Lit.int .i64 a1).wf = true) → ∃ k, laws_FnExactDecMean.f k l0 a1 = some true
end Go.Proofs.Ytpinmagodpplaaa.All
