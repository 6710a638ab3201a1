/-
  No cell of these rows narrows 'for every input' (looked for: loops, veiled, ifaces, maps, wideKeys, modest, calm, conditions, laid).
  DERIVED. THE GIVEN ROWS OF THIS SEAT. 6 by the template 'for every input the law returns true; each argument reads behind the call as it read before'; 0 by the template 'total and deterministic' (their statements: YtpinmagodpplaaaTotals.lean).
  GIVEN WITH THE SEED: the statements are not yours to turn. If you find one false, say at which input.
  Laid BY PROGRAM, IN A SANDBOX (cutbox-rows.mjs): the forced cells as the released guide's own fill.sh prints them over the translation 53b4bd42ce060c2c… (all of the seat's roots in one cut). By AI agents, Wed Nov 11 2026. No macro, syntax, notation, axiom, sorry.
-/
import Derived.Test.YtpinmagodpplaaaChecked
import GoSem.Claim
import GoSem.ClaimJoined
import GoSem.ClaimMapViews
import Derived.JoinedTies
import Derived.KernelRfl
namespace Go.Proofs.Ytpinmagodpplaaa
/- THE CELL 'sum', in the pinned program and in every row, IS THE sha256 OF THE DUMP (.gsa) THAT YtpinmagodpplaaaProg.lean LOADS. Nothing in Lean hashes anything: it is a label: what it is worth is what the hold of that sum in a sandbox is worth. -/
noncomputable def Try.pinned : Pinned := { name := "ytpinmagodpplaaa", sum := "53b4bd42ce060c2c0e5e52680b5a53a585bd8cae58d7518378ff87f6d1cfa2d2", checked := Try.checked }
namespace Rows
def none {H : Type} : Left H := { results := [], args := [] }

/-- 'laws.FnExactSpcFind': WHATEVER THE INPUT: true; the input reads as it did. -/
def fnExactSpcFindSpec : ChangeSpec := { name := "fnExactSpcFind", fn := fun _ => fun
  | [d1, d2] => { results := [.lit (.bool true)], args := [d1, d2] }
  | _ => none }
def fnExactSpcFindRow : OpenClaim := { program := "ytpinmagodpplaaa", sum := "53b4bd42ce060c2c0e5e52680b5a53a585bd8cae58d7518378ff87f6d1cfa2d2", func := "loop.example/cupel/laws.FnExactSpcFind", spec := "fnExactSpcFind", unfollowed := true, recurses := true, apart := false }
def FnExactSpcFindSaid : Prop := fnExactSpcFindRow.holds Try.pinned (OpenSpec.ofChange fnExactSpcFindSpec)

/-- ITS FALSE NEIGHBOUR: 'it returns false'. Refute it at one input. -/
def fnExactSpcFindWrong : ChangeSpec := { name := "fnExactSpcFind", fn := fun _ => fun
  | [d1, d2] => { results := [.lit (.bool false)], args := [d1, d2] }
  | _ => none }
def FnExactSpcFindWrongFalsely : Prop := fnExactSpcFindRow.holds Try.pinned (OpenSpec.ofChange fnExactSpcFindWrong)

/-- 'laws.FnExactDecMean': WHATEVER THE INPUT: true; the input reads as it did. -/
def fnExactDecMeanSpec : ChangeSpec := { name := "fnExactDecMean", fn := fun _ => fun
  | [d1, d2] => { results := [.lit (.bool true)], args := [d1, d2] }
  | _ => none }
def fnExactDecMeanRow : OpenClaim := { program := "ytpinmagodpplaaa", sum := "53b4bd42ce060c2c0e5e52680b5a53a585bd8cae58d7518378ff87f6d1cfa2d2", func := "loop.example/cupel/laws.FnExactDecMean", spec := "fnExactDecMean", unfollowed := true, recurses := true, apart := false }
def FnExactDecMeanSaid : Prop := fnExactDecMeanRow.holds Try.pinned (OpenSpec.ofChange fnExactDecMeanSpec)

/-- ITS FALSE NEIGHBOUR: 'it returns false'. Refute it at one input. -/
def fnExactDecMeanWrong : ChangeSpec := { name := "fnExactDecMean", fn := fun _ => fun
  | [d1, d2] => { results := [.lit (.bool false)], args := [d1, d2] }
  | _ => none }
def FnExactDecMeanWrongFalsely : Prop := fnExactDecMeanRow.holds Try.pinned (OpenSpec.ofChange fnExactDecMeanWrong)

/-- 'laws.FnExactSpcNow': WHATEVER THE INPUT: true; the input reads as it did. -/
def fnExactSpcNowSpec : ChangeSpec := { name := "fnExactSpcNow", fn := fun _ => fun
  | [d] => { results := [.lit (.bool true)], args := [d] }
  | _ => none }
def fnExactSpcNowRow : OpenClaim := { program := "ytpinmagodpplaaa", sum := "53b4bd42ce060c2c0e5e52680b5a53a585bd8cae58d7518378ff87f6d1cfa2d2", func := "loop.example/cupel/laws.FnExactSpcNow", spec := "fnExactSpcNow", unfollowed := true, recurses := true, apart := false }
def FnExactSpcNowSaid : Prop := fnExactSpcNowRow.holds Try.pinned (OpenSpec.ofChange fnExactSpcNowSpec)

/-- ITS FALSE NEIGHBOUR: 'it returns false'. Refute it at one input. -/
def fnExactSpcNowWrong : ChangeSpec := { name := "fnExactSpcNow", fn := fun _ => fun
  | [d] => { results := [.lit (.bool false)], args := [d] }
  | _ => none }
def FnExactSpcNowWrongFalsely : Prop := fnExactSpcNowRow.holds Try.pinned (OpenSpec.ofChange fnExactSpcNowWrong)

/-- 'laws.FnSpcFind': WHATEVER THE INPUT: true; the input reads as it did. -/
def fnSpcFindSpec : ChangeSpec := { name := "fnSpcFind", fn := fun _ => fun
  | [d] => { results := [.lit (.bool true)], args := [d] }
  | _ => none }
def fnSpcFindRow : OpenClaim := { program := "ytpinmagodpplaaa", sum := "53b4bd42ce060c2c0e5e52680b5a53a585bd8cae58d7518378ff87f6d1cfa2d2", func := "loop.example/cupel/laws.FnSpcFind", spec := "fnSpcFind", unfollowed := true, recurses := true, apart := false }
def FnSpcFindSaid : Prop := fnSpcFindRow.holds Try.pinned (OpenSpec.ofChange fnSpcFindSpec)

/-- ITS FALSE NEIGHBOUR: 'it returns false'. Refute it at one input. -/
def fnSpcFindWrong : ChangeSpec := { name := "fnSpcFind", fn := fun _ => fun
  | [d] => { results := [.lit (.bool false)], args := [d] }
  | _ => none }
def FnSpcFindWrongFalsely : Prop := fnSpcFindRow.holds Try.pinned (OpenSpec.ofChange fnSpcFindWrong)

/-- 'laws.FnDecMean': WHATEVER THE INPUT: true; the input reads as it did. -/
def fnDecMeanSpec : ChangeSpec := { name := "fnDecMean", fn := fun _ => fun
  | [d] => { results := [.lit (.bool true)], args := [d] }
  | _ => none }
def fnDecMeanRow : OpenClaim := { program := "ytpinmagodpplaaa", sum := "53b4bd42ce060c2c0e5e52680b5a53a585bd8cae58d7518378ff87f6d1cfa2d2", func := "loop.example/cupel/laws.FnDecMean", spec := "fnDecMean", unfollowed := true, recurses := true, apart := false }
def FnDecMeanSaid : Prop := fnDecMeanRow.holds Try.pinned (OpenSpec.ofChange fnDecMeanSpec)

/-- ITS FALSE NEIGHBOUR: 'it returns false'. Refute it at one input. -/
def fnDecMeanWrong : ChangeSpec := { name := "fnDecMean", fn := fun _ => fun
  | [d] => { results := [.lit (.bool false)], args := [d] }
  | _ => none }
def FnDecMeanWrongFalsely : Prop := fnDecMeanRow.holds Try.pinned (OpenSpec.ofChange fnDecMeanWrong)

/-- 'laws.FnSpcNow': WHATEVER THE INPUT: true; the input reads as it did. -/
def fnSpcNowSpec : ChangeSpec := { name := "fnSpcNow", fn := fun _ => fun
  | [d] => { results := [.lit (.bool true)], args := [d] }
  | _ => none }
def fnSpcNowRow : OpenClaim := { program := "ytpinmagodpplaaa", sum := "53b4bd42ce060c2c0e5e52680b5a53a585bd8cae58d7518378ff87f6d1cfa2d2", func := "loop.example/cupel/laws.FnSpcNow", spec := "fnSpcNow", unfollowed := true, recurses := true, apart := false }
def FnSpcNowSaid : Prop := fnSpcNowRow.holds Try.pinned (OpenSpec.ofChange fnSpcNowSpec)

/-- ITS FALSE NEIGHBOUR: 'it returns false'. Refute it at one input. -/
def fnSpcNowWrong : ChangeSpec := { name := "fnSpcNow", fn := fun _ => fun
  | [d] => { results := [.lit (.bool false)], args := [d] }
  | _ => none }
def FnSpcNowWrongFalsely : Prop := fnSpcNowRow.holds Try.pinned (OpenSpec.ofChange fnSpcNowWrong)

/- THE SECOND FORM. 'bulk': how many values and letters a reading holds, each counted each time it is reached (what is shared counts as often as it is met; a slice's spare places count too). A statement '..UptoSaid' is the law's where the arguments, and the package variables that the reading takes, are together of bulk at most 1048576: NARROWER than '..Said'. Prove '..Said' where nothing that the law and all that it calls make is longer than what came in: it says more and counts as full. Else prove '..UptoSaid'. A law counts once. -/
mutual
def uptoBulk {H : Type} : DataW H → Nat
  | .lit (.string bytes) => bytes.length + 1
  | .lit _ => 1
  | .nil => 1
  | .ptr d => uptoBulk d + 1
  | .slice elems spare => uptoBulkAll elems + uptoBulkAll spare + 1
  | .agg parts => uptoBulkAll parts + 1
  | .iface _ d => uptoBulk d + 1
  | .map entries => uptoBulkEntries entries + 1
  | .held _ => 1
def uptoBulkAll {H : Type} : List (DataW H) → Nat
  | [] => 0
  | d :: r => uptoBulk d + uptoBulkAll r
def uptoBulkEntries {H : Type} : List (Lit × DataW H) → Nat
  | [] => 0
  | x :: r => uptoBulkEntry x + uptoBulkEntries r
def uptoBulkEntry {H : Type} : Lit × DataW H → Nat
  | (.string bytes, d) => bytes.length + uptoBulk d + 1
  | (_, d) => uptoBulk d + 1
 end
def uptoSmall : (H : Type) → List (DataW H) → Bool := fun _ ds => decide (uptoBulkAll ds ≤ 1048576)
def OpenSpec.upto (s : _root_.Go.ChangeSpec) : _root_.Go.OpenSpec := { _root_.Go.OpenSpec.ofChange s with cond := some uptoSmall }

/-- 'laws.FnExactSpcFind', WHERE WHAT IT READS IS OF BULK AT MOST 1048576: true; the input reads as it did. -/
def fnExactSpcFindUptoRow : OpenClaim := { program := "ytpinmagodpplaaa", sum := "53b4bd42ce060c2c0e5e52680b5a53a585bd8cae58d7518378ff87f6d1cfa2d2", func := "loop.example/cupel/laws.FnExactSpcFind", spec := "fnExactSpcFind", unfollowed := true, recurses := true, apart := false, narrowed := true }
def FnExactSpcFindUptoSaid : Prop := fnExactSpcFindUptoRow.holds Try.pinned (OpenSpec.upto fnExactSpcFindSpec)

/-- 'laws.FnExactDecMean', WHERE WHAT IT READS IS OF BULK AT MOST 1048576: true; the input reads as it did. -/
def fnExactDecMeanUptoRow : OpenClaim := { program := "ytpinmagodpplaaa", sum := "53b4bd42ce060c2c0e5e52680b5a53a585bd8cae58d7518378ff87f6d1cfa2d2", func := "loop.example/cupel/laws.FnExactDecMean", spec := "fnExactDecMean", unfollowed := true, recurses := true, apart := false, narrowed := true }
def FnExactDecMeanUptoSaid : Prop := fnExactDecMeanUptoRow.holds Try.pinned (OpenSpec.upto fnExactDecMeanSpec)

/-- 'laws.FnExactSpcNow', WHERE WHAT IT READS IS OF BULK AT MOST 1048576: true; the input reads as it did. -/
def fnExactSpcNowUptoRow : OpenClaim := { program := "ytpinmagodpplaaa", sum := "53b4bd42ce060c2c0e5e52680b5a53a585bd8cae58d7518378ff87f6d1cfa2d2", func := "loop.example/cupel/laws.FnExactSpcNow", spec := "fnExactSpcNow", unfollowed := true, recurses := true, apart := false, narrowed := true }
def FnExactSpcNowUptoSaid : Prop := fnExactSpcNowUptoRow.holds Try.pinned (OpenSpec.upto fnExactSpcNowSpec)

/-- 'laws.FnSpcFind', WHERE WHAT IT READS IS OF BULK AT MOST 1048576: true; the input reads as it did. -/
def fnSpcFindUptoRow : OpenClaim := { program := "ytpinmagodpplaaa", sum := "53b4bd42ce060c2c0e5e52680b5a53a585bd8cae58d7518378ff87f6d1cfa2d2", func := "loop.example/cupel/laws.FnSpcFind", spec := "fnSpcFind", unfollowed := true, recurses := true, apart := false, narrowed := true }
def FnSpcFindUptoSaid : Prop := fnSpcFindUptoRow.holds Try.pinned (OpenSpec.upto fnSpcFindSpec)

/-- 'laws.FnDecMean', WHERE WHAT IT READS IS OF BULK AT MOST 1048576: true; the input reads as it did. -/
def fnDecMeanUptoRow : OpenClaim := { program := "ytpinmagodpplaaa", sum := "53b4bd42ce060c2c0e5e52680b5a53a585bd8cae58d7518378ff87f6d1cfa2d2", func := "loop.example/cupel/laws.FnDecMean", spec := "fnDecMean", unfollowed := true, recurses := true, apart := false, narrowed := true }
def FnDecMeanUptoSaid : Prop := fnDecMeanUptoRow.holds Try.pinned (OpenSpec.upto fnDecMeanSpec)

/-- 'laws.FnSpcNow', WHERE WHAT IT READS IS OF BULK AT MOST 1048576: true; the input reads as it did. -/
def fnSpcNowUptoRow : OpenClaim := { program := "ytpinmagodpplaaa", sum := "53b4bd42ce060c2c0e5e52680b5a53a585bd8cae58d7518378ff87f6d1cfa2d2", func := "loop.example/cupel/laws.FnSpcNow", spec := "fnSpcNow", unfollowed := true, recurses := true, apart := false, narrowed := true }
def FnSpcNowUptoSaid : Prop := fnSpcNowUptoRow.holds Try.pinned (OpenSpec.upto fnSpcNowSpec)

end Rows
end Go.Proofs.Ytpinmagodpplaaa
