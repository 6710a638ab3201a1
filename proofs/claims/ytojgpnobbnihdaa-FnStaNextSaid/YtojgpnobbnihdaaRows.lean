/-
  No cell of these rows narrows 'for every input' (looked for: loops, veiled, ifaces, maps, wideKeys, modest, calm, conditions, laid).
  DERIVED. THE GIVEN ROWS OF THIS SEAT. 8 by the template 'for every input the law returns true; each argument reads behind the call as it read before'; 0 by the template 'total and deterministic' (their statements: YtojgpnobbnihdaaTotals.lean).
  GIVEN WITH THE SEED: the statements are not yours to turn. If you find one false, say at which input.
  Laid BY PROGRAM, IN A SANDBOX (cutbox-rows.mjs): the forced cells as the released guide's own fill.sh prints them over the translation 2b98b49f969bb6ec… (all of the seat's roots in one cut). By AI agents, Wed Nov 11 2026. No macro, syntax, notation, axiom, sorry.
-/
import Derived.Test.YtojgpnobbnihdaaChecked
import GoSem.Claim
import GoSem.ClaimJoined
import GoSem.ClaimMapViews
import Derived.JoinedTies
import Derived.KernelRfl
namespace Go.Proofs.Ytojgpnobbnihdaa
/- THE CELL 'sum', in the pinned program and in every row, IS THE sha256 OF THE DUMP (.gsa) THAT YtojgpnobbnihdaaProg.lean LOADS. Nothing in Lean hashes anything: it is a label: what it is worth is what the hold of that sum in a sandbox is worth. -/
noncomputable def Try.pinned : Pinned := { name := "ytojgpnobbnihdaa", sum := "2b98b49f969bb6ec101ef4b75080af33bfc8e287568f94b169ec11ee7c0cb73a", checked := Try.checked }
namespace Rows
def none {H : Type} : Left H := { results := [], args := [] }

/-- 'laws.FnExactStaOk': WHATEVER THE INPUT: true; the input reads as it did. -/
def fnExactStaOkSpec : ChangeSpec := { name := "fnExactStaOk", fn := fun _ => fun
  | [d] => { results := [.lit (.bool true)], args := [d] }
  | _ => none }
def fnExactStaOkRow : OpenClaim := { program := "ytojgpnobbnihdaa", sum := "2b98b49f969bb6ec101ef4b75080af33bfc8e287568f94b169ec11ee7c0cb73a", func := "loop.example/cupel/laws.FnExactStaOk", spec := "fnExactStaOk", apart := false }
def FnExactStaOkSaid : Prop := fnExactStaOkRow.holds Try.pinned (OpenSpec.ofChange fnExactStaOkSpec)

/-- ITS FALSE NEIGHBOUR: 'it returns false'. Refute it at one input. -/
def fnExactStaOkWrong : ChangeSpec := { name := "fnExactStaOk", fn := fun _ => fun
  | [d] => { results := [.lit (.bool false)], args := [d] }
  | _ => none }
def FnExactStaOkWrongFalsely : Prop := fnExactStaOkRow.holds Try.pinned (OpenSpec.ofChange fnExactStaOkWrong)

/-- 'laws.FnStaPulls': WHATEVER THE INPUT: true; the input reads as it did. -/
def fnStaPullsSpec : ChangeSpec := { name := "fnStaPulls", fn := fun _ => fun
  | [d] => { results := [.lit (.bool true)], args := [d] }
  | _ => none }
def fnStaPullsRow : OpenClaim := { program := "ytojgpnobbnihdaa", sum := "2b98b49f969bb6ec101ef4b75080af33bfc8e287568f94b169ec11ee7c0cb73a", func := "loop.example/cupel/laws.FnStaPulls", spec := "fnStaPulls", apart := false }
def FnStaPullsSaid : Prop := fnStaPullsRow.holds Try.pinned (OpenSpec.ofChange fnStaPullsSpec)

/-- ITS FALSE NEIGHBOUR: 'it returns false'. Refute it at one input. -/
def fnStaPullsWrong : ChangeSpec := { name := "fnStaPulls", fn := fun _ => fun
  | [d] => { results := [.lit (.bool false)], args := [d] }
  | _ => none }
def FnStaPullsWrongFalsely : Prop := fnStaPullsRow.holds Try.pinned (OpenSpec.ofChange fnStaPullsWrong)

/-- 'laws.FnExactStaState': WHATEVER THE INPUT: true; the input reads as it did. -/
def fnExactStaStateSpec : ChangeSpec := { name := "fnExactStaState", fn := fun _ => fun
  | [d1, d2, d3, d4] => { results := [.lit (.bool true)], args := [d1, d2, d3, d4] }
  | _ => none }
def fnExactStaStateRow : OpenClaim := { program := "ytojgpnobbnihdaa", sum := "2b98b49f969bb6ec101ef4b75080af33bfc8e287568f94b169ec11ee7c0cb73a", func := "loop.example/cupel/laws.FnExactStaState", spec := "fnExactStaState", apart := false }
def FnExactStaStateSaid : Prop := fnExactStaStateRow.holds Try.pinned (OpenSpec.ofChange fnExactStaStateSpec)

/-- ITS FALSE NEIGHBOUR: 'it returns false'. Refute it at one input. -/
def fnExactStaStateWrong : ChangeSpec := { name := "fnExactStaState", fn := fun _ => fun
  | [d1, d2, d3, d4] => { results := [.lit (.bool false)], args := [d1, d2, d3, d4] }
  | _ => none }
def FnExactStaStateWrongFalsely : Prop := fnExactStaStateRow.holds Try.pinned (OpenSpec.ofChange fnExactStaStateWrong)

/-- 'laws.FnExactStaPulls': WHATEVER THE INPUT: true; the input reads as it did. -/
def fnExactStaPullsSpec : ChangeSpec := { name := "fnExactStaPulls", fn := fun _ => fun
  | [d] => { results := [.lit (.bool true)], args := [d] }
  | _ => none }
def fnExactStaPullsRow : OpenClaim := { program := "ytojgpnobbnihdaa", sum := "2b98b49f969bb6ec101ef4b75080af33bfc8e287568f94b169ec11ee7c0cb73a", func := "loop.example/cupel/laws.FnExactStaPulls", spec := "fnExactStaPulls", apart := false }
def FnExactStaPullsSaid : Prop := fnExactStaPullsRow.holds Try.pinned (OpenSpec.ofChange fnExactStaPullsSpec)

/-- ITS FALSE NEIGHBOUR: 'it returns false'. Refute it at one input. -/
def fnExactStaPullsWrong : ChangeSpec := { name := "fnExactStaPulls", fn := fun _ => fun
  | [d] => { results := [.lit (.bool false)], args := [d] }
  | _ => none }
def FnExactStaPullsWrongFalsely : Prop := fnExactStaPullsRow.holds Try.pinned (OpenSpec.ofChange fnExactStaPullsWrong)

/-- 'laws.FnStaState': WHATEVER THE INPUT: true; the input reads as it did. -/
def fnStaStateSpec : ChangeSpec := { name := "fnStaState", fn := fun _ => fun
  | [d] => { results := [.lit (.bool true)], args := [d] }
  | _ => none }
def fnStaStateRow : OpenClaim := { program := "ytojgpnobbnihdaa", sum := "2b98b49f969bb6ec101ef4b75080af33bfc8e287568f94b169ec11ee7c0cb73a", func := "loop.example/cupel/laws.FnStaState", spec := "fnStaState", apart := false }
def FnStaStateSaid : Prop := fnStaStateRow.holds Try.pinned (OpenSpec.ofChange fnStaStateSpec)

/-- ITS FALSE NEIGHBOUR: 'it returns false'. Refute it at one input. -/
def fnStaStateWrong : ChangeSpec := { name := "fnStaState", fn := fun _ => fun
  | [d] => { results := [.lit (.bool false)], args := [d] }
  | _ => none }
def FnStaStateWrongFalsely : Prop := fnStaStateRow.holds Try.pinned (OpenSpec.ofChange fnStaStateWrong)

/-- 'laws.FnStaTime': WHATEVER THE INPUT: true; the input reads as it did. -/
def fnStaTimeSpec : ChangeSpec := { name := "fnStaTime", fn := fun _ => fun
  | [d] => { results := [.lit (.bool true)], args := [d] }
  | _ => none }
def fnStaTimeRow : OpenClaim := { program := "ytojgpnobbnihdaa", sum := "2b98b49f969bb6ec101ef4b75080af33bfc8e287568f94b169ec11ee7c0cb73a", func := "loop.example/cupel/laws.FnStaTime", spec := "fnStaTime", apart := false }
def FnStaTimeSaid : Prop := fnStaTimeRow.holds Try.pinned (OpenSpec.ofChange fnStaTimeSpec)

/-- ITS FALSE NEIGHBOUR: 'it returns false'. Refute it at one input. -/
def fnStaTimeWrong : ChangeSpec := { name := "fnStaTime", fn := fun _ => fun
  | [d] => { results := [.lit (.bool false)], args := [d] }
  | _ => none }
def FnStaTimeWrongFalsely : Prop := fnStaTimeRow.holds Try.pinned (OpenSpec.ofChange fnStaTimeWrong)

/-- 'laws.FnExactStaNext': WHATEVER THE INPUT: true; the input reads as it did. -/
def fnExactStaNextSpec : ChangeSpec := { name := "fnExactStaNext", fn := fun _ => fun
  | [d1, d2, d3] => { results := [.lit (.bool true)], args := [d1, d2, d3] }
  | _ => none }
def fnExactStaNextRow : OpenClaim := { program := "ytojgpnobbnihdaa", sum := "2b98b49f969bb6ec101ef4b75080af33bfc8e287568f94b169ec11ee7c0cb73a", func := "loop.example/cupel/laws.FnExactStaNext", spec := "fnExactStaNext", apart := false }
def FnExactStaNextSaid : Prop := fnExactStaNextRow.holds Try.pinned (OpenSpec.ofChange fnExactStaNextSpec)

/-- ITS FALSE NEIGHBOUR: 'it returns false'. Refute it at one input. -/
def fnExactStaNextWrong : ChangeSpec := { name := "fnExactStaNext", fn := fun _ => fun
  | [d1, d2, d3] => { results := [.lit (.bool false)], args := [d1, d2, d3] }
  | _ => none }
def FnExactStaNextWrongFalsely : Prop := fnExactStaNextRow.holds Try.pinned (OpenSpec.ofChange fnExactStaNextWrong)

/-- 'laws.FnStaNext': WHATEVER THE INPUT: true; the input reads as it did. -/
def fnStaNextSpec : ChangeSpec := { name := "fnStaNext", fn := fun _ => fun
  | [d] => { results := [.lit (.bool true)], args := [d] }
  | _ => none }
def fnStaNextRow : OpenClaim := { program := "ytojgpnobbnihdaa", sum := "2b98b49f969bb6ec101ef4b75080af33bfc8e287568f94b169ec11ee7c0cb73a", func := "loop.example/cupel/laws.FnStaNext", spec := "fnStaNext", apart := false }
def FnStaNextSaid : Prop := fnStaNextRow.holds Try.pinned (OpenSpec.ofChange fnStaNextSpec)

/-- ITS FALSE NEIGHBOUR: 'it returns false'. Refute it at one input. -/
def fnStaNextWrong : ChangeSpec := { name := "fnStaNext", fn := fun _ => fun
  | [d] => { results := [.lit (.bool false)], args := [d] }
  | _ => none }
def FnStaNextWrongFalsely : Prop := fnStaNextRow.holds Try.pinned (OpenSpec.ofChange fnStaNextWrong)

/- THE SECOND FORM. 'bulk': how many values and letters a reading holds, each counted each time it is reached (what is shared counts as often as it is met; a slice's spare places count too). A statement '..UptoSaid' is the law's where the arguments, and the package variables that the reading takes, are together of bulk at most 1048576: NARROWER than '..Said'. Prove '..Said' where nothing that the law and all that it calls make is longer than what came in: it says more and counts as full. Else prove '..UptoSaid'. A law counts once. -/
mutual
def uptoBulk {H : Type} : DataW H → Nat
  | .lit (.string bytes) => bytes.length + 1
  | .lit _ => 1
  | .nil => 1
  | .ptr d => uptoBulk d + 1
  | .slice elems spare => uptoBulkAll elems + uptoBulkAll spare + 1
  | .agg parts => uptoBulkAll parts + 1
  | .iface _ d => uptoBulk d + 1
  | .map entries => uptoBulkEntries entries + 1
  | .held _ => 1
def uptoBulkAll {H : Type} : List (DataW H) → Nat
  | [] => 0
  | d :: r => uptoBulk d + uptoBulkAll r
def uptoBulkEntries {H : Type} : List (Lit × DataW H) → Nat
  | [] => 0
  | x :: r => uptoBulkEntry x + uptoBulkEntries r
def uptoBulkEntry {H : Type} : Lit × DataW H → Nat
  | (.string bytes, d) => bytes.length + uptoBulk d + 1
  | (_, d) => uptoBulk d + 1
 end
def uptoSmall : (H : Type) → List (DataW H) → Bool := fun _ ds => decide (uptoBulkAll ds ≤ 1048576)
def OpenSpec.upto (s : _root_.Go.ChangeSpec) : _root_.Go.OpenSpec := { _root_.Go.OpenSpec.ofChange s with cond := some uptoSmall }

/-- 'laws.FnExactStaOk', WHERE WHAT IT READS IS OF BULK AT MOST 1048576: true; the input reads as it did. -/
def fnExactStaOkUptoRow : OpenClaim := { program := "ytojgpnobbnihdaa", sum := "2b98b49f969bb6ec101ef4b75080af33bfc8e287568f94b169ec11ee7c0cb73a", func := "loop.example/cupel/laws.FnExactStaOk", spec := "fnExactStaOk", apart := false, narrowed := true }
def FnExactStaOkUptoSaid : Prop := fnExactStaOkUptoRow.holds Try.pinned (OpenSpec.upto fnExactStaOkSpec)

/-- 'laws.FnStaPulls', WHERE WHAT IT READS IS OF BULK AT MOST 1048576: true; the input reads as it did. -/
def fnStaPullsUptoRow : OpenClaim := { program := "ytojgpnobbnihdaa", sum := "2b98b49f969bb6ec101ef4b75080af33bfc8e287568f94b169ec11ee7c0cb73a", func := "loop.example/cupel/laws.FnStaPulls", spec := "fnStaPulls", apart := false, narrowed := true }
def FnStaPullsUptoSaid : Prop := fnStaPullsUptoRow.holds Try.pinned (OpenSpec.upto fnStaPullsSpec)

/-- 'laws.FnExactStaState', WHERE WHAT IT READS IS OF BULK AT MOST 1048576: true; the input reads as it did. -/
def fnExactStaStateUptoRow : OpenClaim := { program := "ytojgpnobbnihdaa", sum := "2b98b49f969bb6ec101ef4b75080af33bfc8e287568f94b169ec11ee7c0cb73a", func := "loop.example/cupel/laws.FnExactStaState", spec := "fnExactStaState", apart := false, narrowed := true }
def FnExactStaStateUptoSaid : Prop := fnExactStaStateUptoRow.holds Try.pinned (OpenSpec.upto fnExactStaStateSpec)

/-- 'laws.FnExactStaPulls', WHERE WHAT IT READS IS OF BULK AT MOST 1048576: true; the input reads as it did. -/
def fnExactStaPullsUptoRow : OpenClaim := { program := "ytojgpnobbnihdaa", sum := "2b98b49f969bb6ec101ef4b75080af33bfc8e287568f94b169ec11ee7c0cb73a", func := "loop.example/cupel/laws.FnExactStaPulls", spec := "fnExactStaPulls", apart := false, narrowed := true }
def FnExactStaPullsUptoSaid : Prop := fnExactStaPullsUptoRow.holds Try.pinned (OpenSpec.upto fnExactStaPullsSpec)

/-- 'laws.FnStaState', WHERE WHAT IT READS IS OF BULK AT MOST 1048576: true; the input reads as it did. -/
def fnStaStateUptoRow : OpenClaim := { program := "ytojgpnobbnihdaa", sum := "2b98b49f969bb6ec101ef4b75080af33bfc8e287568f94b169ec11ee7c0cb73a", func := "loop.example/cupel/laws.FnStaState", spec := "fnStaState", apart := false, narrowed := true }
def FnStaStateUptoSaid : Prop := fnStaStateUptoRow.holds Try.pinned (OpenSpec.upto fnStaStateSpec)

/-- 'laws.FnStaTime', WHERE WHAT IT READS IS OF BULK AT MOST 1048576: true; the input reads as it did. -/
def fnStaTimeUptoRow : OpenClaim := { program := "ytojgpnobbnihdaa", sum := "2b98b49f969bb6ec101ef4b75080af33bfc8e287568f94b169ec11ee7c0cb73a", func := "loop.example/cupel/laws.FnStaTime", spec := "fnStaTime", apart := false, narrowed := true }
def FnStaTimeUptoSaid : Prop := fnStaTimeUptoRow.holds Try.pinned (OpenSpec.upto fnStaTimeSpec)

/-- 'laws.FnExactStaNext', WHERE WHAT IT READS IS OF BULK AT MOST 1048576: true; the input reads as it did. -/
def fnExactStaNextUptoRow : OpenClaim := { program := "ytojgpnobbnihdaa", sum := "2b98b49f969bb6ec101ef4b75080af33bfc8e287568f94b169ec11ee7c0cb73a", func := "loop.example/cupel/laws.FnExactStaNext", spec := "fnExactStaNext", apart := false, narrowed := true }
def FnExactStaNextUptoSaid : Prop := fnExactStaNextUptoRow.holds Try.pinned (OpenSpec.upto fnExactStaNextSpec)

/-- 'laws.FnStaNext', WHERE WHAT IT READS IS OF BULK AT MOST 1048576: true; the input reads as it did. -/
def fnStaNextUptoRow : OpenClaim := { program := "ytojgpnobbnihdaa", sum := "2b98b49f969bb6ec101ef4b75080af33bfc8e287568f94b169ec11ee7c0cb73a", func := "loop.example/cupel/laws.FnStaNext", spec := "fnStaNext", apart := false, narrowed := true }
def FnStaNextUptoSaid : Prop := fnStaNextUptoRow.holds Try.pinned (OpenSpec.upto fnStaNextSpec)

end Rows
end Go.Proofs.Ytojgpnobbnihdaa
