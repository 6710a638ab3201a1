/-
  No cell of these rows narrows 'for every input' (looked for: loops, veiled, ifaces, maps, wideKeys, modest, calm, conditions, laid).
  DERIVED. THE GIVEN ROWS OF THIS SEAT. 3 by the template 'for every input the law returns true; each argument reads behind the call as it read before'; 0 by the template 'total and deterministic' (their statements: YtipfdcmjcelbiaaTotals.lean).
  GIVEN WITH THE SEED: the statements are not yours to turn. If you find one false, say at which input.
  Laid BY PROGRAM, IN A SANDBOX (cutbox-rows.mjs): the forced cells as the released guide's own fill.sh prints them over the translation fcf0e3c58d7df385… (all of the seat's roots in one cut). By AI agents, Wed Nov 11 2026. No macro, syntax, notation, axiom, sorry.
-/
import Derived.Test.YtipfdcmjcelbiaaChecked
import GoSem.Claim
import GoSem.ClaimJoined
import GoSem.ClaimMapViews
import Derived.JoinedTies
import Derived.KernelRfl
namespace Go.Proofs.Ytipfdcmjcelbiaa
/- THE CELL 'sum', in the pinned program and in every row, IS THE sha256 OF THE DUMP (.gsa) THAT YtipfdcmjcelbiaaProg.lean LOADS. Nothing in Lean hashes anything: it is a label: what it is worth is what the hold of that sum in a sandbox is worth. -/
noncomputable def Try.pinned : Pinned := { name := "ytipfdcmjcelbiaa", sum := "fcf0e3c58d7df385ebd8feb65cce8e1be41c5e158daf3971bb9dad3e5f5aacff", checked := Try.checked }
namespace Rows
def none {H : Type} : Left H := { results := [], args := [] }

/-- 'laws.FnBatMark': WHATEVER THE INPUT: true; the input reads as it did. -/
def fnBatMarkSpec : ChangeSpec := { name := "fnBatMark", fn := fun _ => fun
  | [d] => { results := [.lit (.bool true)], args := [d] }
  | _ => none }
def fnBatMarkRow : OpenClaim := { program := "ytipfdcmjcelbiaa", sum := "fcf0e3c58d7df385ebd8feb65cce8e1be41c5e158daf3971bb9dad3e5f5aacff", func := "loop.example/cupel/laws.FnBatMark", spec := "fnBatMark", recurses := true, apart := false }
def FnBatMarkSaid : Prop := fnBatMarkRow.holds Try.pinned (OpenSpec.ofChange fnBatMarkSpec)

/-- ITS FALSE NEIGHBOUR: 'it returns false'. Refute it at one input. -/
def fnBatMarkWrong : ChangeSpec := { name := "fnBatMark", fn := fun _ => fun
  | [d] => { results := [.lit (.bool false)], args := [d] }
  | _ => none }
def FnBatMarkWrongFalsely : Prop := fnBatMarkRow.holds Try.pinned (OpenSpec.ofChange fnBatMarkWrong)

/-- 'laws.FnAudWho': WHATEVER THE INPUT: true; the input reads as it did. -/
def fnAudWhoSpec : ChangeSpec := { name := "fnAudWho", fn := fun _ => fun
  | [d] => { results := [.lit (.bool true)], args := [d] }
  | _ => none }
def fnAudWhoRow : OpenClaim := { program := "ytipfdcmjcelbiaa", sum := "fcf0e3c58d7df385ebd8feb65cce8e1be41c5e158daf3971bb9dad3e5f5aacff", func := "loop.example/cupel/laws.FnAudWho", spec := "fnAudWho", unfollowed := true, recurses := true, apart := false }
def FnAudWhoSaid : Prop := fnAudWhoRow.holds Try.pinned (OpenSpec.ofChange fnAudWhoSpec)

/-- ITS FALSE NEIGHBOUR: 'it returns false'. Refute it at one input. -/
def fnAudWhoWrong : ChangeSpec := { name := "fnAudWho", fn := fun _ => fun
  | [d] => { results := [.lit (.bool false)], args := [d] }
  | _ => none }
def FnAudWhoWrongFalsely : Prop := fnAudWhoRow.holds Try.pinned (OpenSpec.ofChange fnAudWhoWrong)

/-- 'laws.FnBatSigned': WHATEVER THE INPUT: true; the input reads as it did. -/
def fnBatSignedSpec : ChangeSpec := { name := "fnBatSigned", fn := fun _ => fun
  | [d] => { results := [.lit (.bool true)], args := [d] }
  | _ => none }
def fnBatSignedRow : OpenClaim := { program := "ytipfdcmjcelbiaa", sum := "fcf0e3c58d7df385ebd8feb65cce8e1be41c5e158daf3971bb9dad3e5f5aacff", func := "loop.example/cupel/laws.FnBatSigned", spec := "fnBatSigned", recurses := true, apart := false }
def FnBatSignedSaid : Prop := fnBatSignedRow.holds Try.pinned (OpenSpec.ofChange fnBatSignedSpec)

/-- ITS FALSE NEIGHBOUR: 'it returns false'. Refute it at one input. -/
def fnBatSignedWrong : ChangeSpec := { name := "fnBatSigned", fn := fun _ => fun
  | [d] => { results := [.lit (.bool false)], args := [d] }
  | _ => none }
def FnBatSignedWrongFalsely : Prop := fnBatSignedRow.holds Try.pinned (OpenSpec.ofChange fnBatSignedWrong)

/- THE SECOND FORM. 'bulk': how many values and letters a reading holds, each counted each time it is reached (what is shared counts as often as it is met; a slice's spare places count too). A statement '..UptoSaid' is the law's where the arguments, and the package variables that the reading takes, are together of bulk at most 1048576: NARROWER than '..Said'. Prove '..Said' where nothing that the law and all that it calls make is longer than what came in: it says more and counts as full. Else prove '..UptoSaid'. A law counts once. -/
mutual
def uptoBulk {H : Type} : DataW H → Nat
  | .lit (.string bytes) => bytes.length + 1
  | .lit _ => 1
  | .nil => 1
  | .ptr d => uptoBulk d + 1
  | .slice elems spare => uptoBulkAll elems + uptoBulkAll spare + 1
  | .agg parts => uptoBulkAll parts + 1
  | .iface _ d => uptoBulk d + 1
  | .map entries => uptoBulkEntries entries + 1
  | .held _ => 1
def uptoBulkAll {H : Type} : List (DataW H) → Nat
  | [] => 0
  | d :: r => uptoBulk d + uptoBulkAll r
def uptoBulkEntries {H : Type} : List (Lit × DataW H) → Nat
  | [] => 0
  | x :: r => uptoBulkEntry x + uptoBulkEntries r
def uptoBulkEntry {H : Type} : Lit × DataW H → Nat
  | (.string bytes, d) => bytes.length + uptoBulk d + 1
  | (_, d) => uptoBulk d + 1
 end
def uptoSmall : (H : Type) → List (DataW H) → Bool := fun _ ds => decide (uptoBulkAll ds ≤ 1048576)
def OpenSpec.upto (s : _root_.Go.ChangeSpec) : _root_.Go.OpenSpec := { _root_.Go.OpenSpec.ofChange s with cond := some uptoSmall }

/-- 'laws.FnBatMark', WHERE WHAT IT READS IS OF BULK AT MOST 1048576: true; the input reads as it did. -/
def fnBatMarkUptoRow : OpenClaim := { program := "ytipfdcmjcelbiaa", sum := "fcf0e3c58d7df385ebd8feb65cce8e1be41c5e158daf3971bb9dad3e5f5aacff", func := "loop.example/cupel/laws.FnBatMark", spec := "fnBatMark", recurses := true, apart := false, narrowed := true }
def FnBatMarkUptoSaid : Prop := fnBatMarkUptoRow.holds Try.pinned (OpenSpec.upto fnBatMarkSpec)

/-- 'laws.FnAudWho', WHERE WHAT IT READS IS OF BULK AT MOST 1048576: true; the input reads as it did. -/
def fnAudWhoUptoRow : OpenClaim := { program := "ytipfdcmjcelbiaa", sum := "fcf0e3c58d7df385ebd8feb65cce8e1be41c5e158daf3971bb9dad3e5f5aacff", func := "loop.example/cupel/laws.FnAudWho", spec := "fnAudWho", unfollowed := true, recurses := true, apart := false, narrowed := true }
def FnAudWhoUptoSaid : Prop := fnAudWhoUptoRow.holds Try.pinned (OpenSpec.upto fnAudWhoSpec)

/-- 'laws.FnBatSigned', WHERE WHAT IT READS IS OF BULK AT MOST 1048576: true; the input reads as it did. -/
def fnBatSignedUptoRow : OpenClaim := { program := "ytipfdcmjcelbiaa", sum := "fcf0e3c58d7df385ebd8feb65cce8e1be41c5e158daf3971bb9dad3e5f5aacff", func := "loop.example/cupel/laws.FnBatSigned", spec := "fnBatSigned", recurses := true, apart := false, narrowed := true }
def FnBatSignedUptoSaid : Prop := fnBatSignedUptoRow.holds Try.pinned (OpenSpec.upto fnBatSignedSpec)

end Rows
end Go.Proofs.Ytipfdcmjcelbiaa
