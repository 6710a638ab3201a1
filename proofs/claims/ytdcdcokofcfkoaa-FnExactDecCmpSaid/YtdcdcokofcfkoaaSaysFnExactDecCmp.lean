-- Written by the session's own program wip/allprint.py, which drives the kit's print; Lean checks it.
import Derived.Test.YtdcdcokofcfkoaaOpen
import Derived.Test.YtdcdcokofcfkoaaAllx17
namespace Go.Proofs.Ytdcdcokofcfkoaa.All
open Go.RowKit Go.Proofs.YtdcdcokofcfkoaaW.PrintWords Go.Proofs.YtdcdcokofcfkoaaW.PrintLast
set_option linter.unusedVariables false
def laws_FnExactDecCmp.Pure : Prop := ∀ (a0_0 : Int) (a0_1 : Int) (a1_0 : Int) (a1_1 : Int), ((Lit.int .i64 a0_0).wf = true) → ((Lit.int .i64 a0_1).wf = true) → ((Lit.int .i64 a1_0).wf = true) → ((Lit.int .i64 a1_1).wf = true) → ∃ k, laws_FnExactDecCmp.f k a0_0 a0_1 a1_0 a1_1 = some true
end Go.Proofs.Ytdcdcokofcfkoaa.All
