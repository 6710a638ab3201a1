-- Written by the session's own program wip/allprint.py, which drives the kit's print; Lean checks it.
import Derived.Test.YtcifhhgoippmbaaOpen
import Derived.Test.YtcifhhgoippmbaaAllx12
namespace Go.Proofs.Ytcifhhgoippmbaa.All
open Go.RowKit Go.Proofs.YtcifhhgoippmbaaW.PrintWords Go.Proofs.YtcifhhgoippmbaaW.PrintLast
set_option linter.unusedVariables false
def laws_FnExactHouStates.Pure : Prop := ∀ (l0_0 : List Int) (l0_1 : List (S56)) (l0_2 : List (S61)), (l0_0.length ≤ maxLen ∧ ∀ z_ ∈ l0_0, (Lit.int .i64 z_).wf = true) → (l0_1.length ≤ maxLen ∧ ∀ z_ ∈ l0_1, G56 z_) → (l0_2.length ≤ maxLen ∧ ∀ z_ ∈ l0_2, G61 z_) → ∃ k, laws_FnExactHouStates.f k l0_0 l0_1 l0_2 = some true
end Go.Proofs.Ytcifhhgoippmbaa.All
