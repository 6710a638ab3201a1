-- Written by the session's own program wip/allprint.py, which drives the kit's print; Lean checks it.
import Derived.Test.YthebfdgnahfhgaaOpen
import Derived.Test.YthebfdgnahfhgaaAllx13
namespace Go.Proofs.Ythebfdgnahfhgaa.All
open Go.RowKit Go.Proofs.YthebfdgnahfhgaaW.PrintWords Go.Proofs.YthebfdgnahfhgaaW.PrintLast
set_option linter.unusedVariables false
def laws_FnExactBatSigned.Pure : Prop := ∀ (a0_0 : Int) (a0_1 : Int) (l0_2 : List (S153)) (a0_3 : Int) (l0_4 : List (S156)) (l0_5 : List Bool) (a1 : Int) (a2 : Int), ((Lit.int .i64 a0_0).wf = true) → ((Lit.int .i64 a0_1).wf = true) → (l0_2.length ≤ maxLen ∧ ∀ z_ ∈ l0_2, G153 z_) → ((Lit.int .i64 a0_3).wf = true) → (l0_4.length ≤ maxLen ∧ ∀ z_ ∈ l0_4, G156 z_) → (l0_5.length ≤ maxLen ∧ ∀ z_ ∈ l0_5, True) → ((Lit.int .i64 a1).wf = true) → ((Lit.int .i64 a2).wf = true) → ∃ k, laws_FnExactBatSigned.f k a0_0 a0_1 l0_2 a0_3 l0_4 l0_5 a1 a2 = some true
end Go.Proofs.Ythebfdgnahfhgaa.All
