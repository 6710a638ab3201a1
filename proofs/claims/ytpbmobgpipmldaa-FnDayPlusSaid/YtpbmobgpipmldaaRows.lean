/-
  No cell of these rows narrows 'for every input' (looked for: loops, veiled, ifaces, maps, wideKeys, modest, calm, conditions, laid).
  DERIVED. THE GIVEN ROWS OF THIS SEAT. 3 by the template 'for every input the law returns true; each argument reads behind the call as it read before'; 0 by the template 'total and deterministic' (their statements: YtpbmobgpipmldaaTotals.lean).
  GIVEN WITH THE SEED: the statements are not yours to turn. If you find one false, say at which input.
  Laid BY PROGRAM, IN A SANDBOX (cutbox-rows.mjs): the forced cells as the released guide's own fill.sh prints them over the translation 729db6521f256e3f… (all of the seat's roots in one cut). By AI agents, Wed Nov 11 2026. No macro, syntax, notation, axiom, sorry.
-/
import Derived.Test.YtpbmobgpipmldaaChecked
import GoSem.Claim
import GoSem.ClaimJoined
import GoSem.ClaimMapViews
import Derived.JoinedTies
import Derived.KernelRfl
namespace Go.Proofs.Ytpbmobgpipmldaa
/- THE CELL 'sum', in the pinned program and in every row, IS THE sha256 OF THE DUMP (.gsa) THAT YtpbmobgpipmldaaProg.lean LOADS. Nothing in Lean hashes anything: it is a label: what it is worth is what the hold of that sum in a sandbox is worth. -/
noncomputable def Try.pinned : Pinned := { name := "ytpbmobgpipmldaa", sum := "729db6521f256e3f4ccc289d240140079e395264514d70c20b5d809602468ac2", checked := Try.checked }
namespace Rows
def none {H : Type} : Left H := { results := [], args := [] }

/-- 'laws.FnStaPulls': WHATEVER THE INPUT: true; the input reads as it did. -/
def fnStaPullsSpec : ChangeSpec := { name := "fnStaPulls", fn := fun _ => fun
  | [d] => { results := [.lit (.bool true)], args := [d] }
  | _ => none }
def fnStaPullsRow : OpenClaim := { program := "ytpbmobgpipmldaa", sum := "729db6521f256e3f4ccc289d240140079e395264514d70c20b5d809602468ac2", func := "loop.example/cupel/laws.FnStaPulls", spec := "fnStaPulls", apart := false }
def FnStaPullsSaid : Prop := fnStaPullsRow.holds Try.pinned (OpenSpec.ofChange fnStaPullsSpec)

/-- ITS FALSE NEIGHBOUR: 'it returns false'. Refute it at one input. -/
def fnStaPullsWrong : ChangeSpec := { name := "fnStaPulls", fn := fun _ => fun
  | [d] => { results := [.lit (.bool false)], args := [d] }
  | _ => none }
def FnStaPullsWrongFalsely : Prop := fnStaPullsRow.holds Try.pinned (OpenSpec.ofChange fnStaPullsWrong)

/-- 'laws.FnDayNum': WHATEVER THE INPUT: true; the input reads as it did. -/
def fnDayNumSpec : ChangeSpec := { name := "fnDayNum", fn := fun _ => fun
  | [d1, d2] => { results := [.lit (.bool true)], args := [d1, d2] }
  | _ => none }
def fnDayNumRow : OpenClaim := { program := "ytpbmobgpipmldaa", sum := "729db6521f256e3f4ccc289d240140079e395264514d70c20b5d809602468ac2", func := "loop.example/cupel/laws.FnDayNum", spec := "fnDayNum", apart := false }
def FnDayNumSaid : Prop := fnDayNumRow.holds Try.pinned (OpenSpec.ofChange fnDayNumSpec)

/-- ITS FALSE NEIGHBOUR: 'it returns false'. Refute it at one input. -/
def fnDayNumWrong : ChangeSpec := { name := "fnDayNum", fn := fun _ => fun
  | [d1, d2] => { results := [.lit (.bool false)], args := [d1, d2] }
  | _ => none }
def FnDayNumWrongFalsely : Prop := fnDayNumRow.holds Try.pinned (OpenSpec.ofChange fnDayNumWrong)

/-- 'laws.FnDayPlus': WHATEVER THE INPUT: true; the input reads as it did. -/
def fnDayPlusSpec : ChangeSpec := { name := "fnDayPlus", fn := fun _ => fun
  | [d] => { results := [.lit (.bool true)], args := [d] }
  | _ => none }
def fnDayPlusRow : OpenClaim := { program := "ytpbmobgpipmldaa", sum := "729db6521f256e3f4ccc289d240140079e395264514d70c20b5d809602468ac2", func := "loop.example/cupel/laws.FnDayPlus", spec := "fnDayPlus", apart := false }
def FnDayPlusSaid : Prop := fnDayPlusRow.holds Try.pinned (OpenSpec.ofChange fnDayPlusSpec)

/-- ITS FALSE NEIGHBOUR: 'it returns false'. Refute it at one input. -/
def fnDayPlusWrong : ChangeSpec := { name := "fnDayPlus", fn := fun _ => fun
  | [d] => { results := [.lit (.bool false)], args := [d] }
  | _ => none }
def FnDayPlusWrongFalsely : Prop := fnDayPlusRow.holds Try.pinned (OpenSpec.ofChange fnDayPlusWrong)

/- THE SECOND FORM. 'bulk': how many values and letters a reading holds, each counted each time it is reached (what is shared counts as often as it is met; a slice's spare places count too). A statement '..UptoSaid' is the law's where the arguments, and the package variables that the reading takes, are together of bulk at most 1048576: NARROWER than '..Said'. Prove '..Said' where nothing that the law and all that it calls make is longer than what came in: it says more and counts as full. Else prove '..UptoSaid'. A law counts once. -/
mutual
def uptoBulk {H : Type} : DataW H → Nat
  | .lit (.string bytes) => bytes.length + 1
  | .lit _ => 1
  | .nil => 1
  | .ptr d => uptoBulk d + 1
  | .slice elems spare => uptoBulkAll elems + uptoBulkAll spare + 1
  | .agg parts => uptoBulkAll parts + 1
  | .iface _ d => uptoBulk d + 1
  | .map entries => uptoBulkEntries entries + 1
  | .held _ => 1
def uptoBulkAll {H : Type} : List (DataW H) → Nat
  | [] => 0
  | d :: r => uptoBulk d + uptoBulkAll r
def uptoBulkEntries {H : Type} : List (Lit × DataW H) → Nat
  | [] => 0
  | x :: r => uptoBulkEntry x + uptoBulkEntries r
def uptoBulkEntry {H : Type} : Lit × DataW H → Nat
  | (.string bytes, d) => bytes.length + uptoBulk d + 1
  | (_, d) => uptoBulk d + 1
 end
def uptoSmall : (H : Type) → List (DataW H) → Bool := fun _ ds => decide (uptoBulkAll ds ≤ 1048576)
def OpenSpec.upto (s : _root_.Go.ChangeSpec) : _root_.Go.OpenSpec := { _root_.Go.OpenSpec.ofChange s with cond := some uptoSmall }

/-- 'laws.FnStaPulls', WHERE WHAT IT READS IS OF BULK AT MOST 1048576: true; the input reads as it did. -/
def fnStaPullsUptoRow : OpenClaim := { program := "ytpbmobgpipmldaa", sum := "729db6521f256e3f4ccc289d240140079e395264514d70c20b5d809602468ac2", func := "loop.example/cupel/laws.FnStaPulls", spec := "fnStaPulls", apart := false, narrowed := true }
def FnStaPullsUptoSaid : Prop := fnStaPullsUptoRow.holds Try.pinned (OpenSpec.upto fnStaPullsSpec)

/-- 'laws.FnDayNum', WHERE WHAT IT READS IS OF BULK AT MOST 1048576: true; the input reads as it did. -/
def fnDayNumUptoRow : OpenClaim := { program := "ytpbmobgpipmldaa", sum := "729db6521f256e3f4ccc289d240140079e395264514d70c20b5d809602468ac2", func := "loop.example/cupel/laws.FnDayNum", spec := "fnDayNum", apart := false, narrowed := true }
def FnDayNumUptoSaid : Prop := fnDayNumUptoRow.holds Try.pinned (OpenSpec.upto fnDayNumSpec)

/-- 'laws.FnDayPlus', WHERE WHAT IT READS IS OF BULK AT MOST 1048576: true; the input reads as it did. -/
def fnDayPlusUptoRow : OpenClaim := { program := "ytpbmobgpipmldaa", sum := "729db6521f256e3f4ccc289d240140079e395264514d70c20b5d809602468ac2", func := "loop.example/cupel/laws.FnDayPlus", spec := "fnDayPlus", apart := false, narrowed := true }
def FnDayPlusUptoSaid : Prop := fnDayPlusUptoRow.holds Try.pinned (OpenSpec.upto fnDayPlusSpec)

end Rows
end Go.Proofs.Ytpbmobgpipmldaa
