-- Written by the session's own program wip/allprint.py, which drives the kit's print; Lean checks it.
import Derived.Test.YthebfdgnahfhgaaOpen
import Derived.Test.YthebfdgnahfhgaaAllx4
namespace Go.Proofs.Ythebfdgnahfhgaa.All
open Go.RowKit Go.Proofs.YthebfdgnahfhgaaW.PrintWords Go.Proofs.YthebfdgnahfhgaaW.PrintLast
set_option linter.unusedVariables false
def laws_FnExactAudWho.Pure : Prop := ∀ (l0 : List (S110)) (a1 : Int), (l0.length ≤ maxLen ∧ ∀ z_ ∈ l0, G110 z_) → ((Lit.int .i64 a1).wf = true) → ∃ k, laws_FnExactAudWho.f k l0 a1 = some true
end Go.Proofs.Ythebfdgnahfhgaa.All
