-- Written by the session's own program wip/allprint.py, which drives the kit's print; Lean checks it.
import Derived.Test.YtojgpnobbnihdaaOpen
import Derived.Test.YtojgpnobbnihdaaAllx26
namespace Go.Proofs.Ytojgpnobbnihdaa.All
open Go.RowKit Go.Proofs.YtojgpnobbnihdaaW.PrintWords Go.Proofs.YtojgpnobbnihdaaW.PrintLast
set_option linter.unusedVariables false
def laws_FnExactStaNext.Pure : Prop := ∀ (a0_0 : Int) (a0_1 : Int) (a0_2 : Int) (l0_3 : List Int) (a0_4 : Int) (a1 : Int) (l2 : List Int), ((Lit.int .i64 a0_0).wf = true) → ((Lit.int .i64 a0_1).wf = true) → ((Lit.int .i64 a0_2).wf = true) → (l0_3.length ≤ maxLen ∧ ∀ z_ ∈ l0_3, (Lit.int .i64 z_).wf = true) → ((Lit.int .i64 a0_4).wf = true) → ((Lit.int .i64 a1).wf = true) → (l2.length ≤ maxLen ∧ ∀ z_ ∈ l2, (Lit.int .i64 z_).wf = true) → ∃ k, laws_FnExactStaNext.f k a0_0 a0_1 a0_2 l0_3 a0_4 a1 l2 = some true
end Go.Proofs.Ytojgpnobbnihdaa.All
