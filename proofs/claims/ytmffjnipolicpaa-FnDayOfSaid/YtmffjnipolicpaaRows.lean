/-
  No cell of these rows narrows 'for every input' (looked for: loops, veiled, ifaces, maps, wideKeys, modest, calm, conditions, laid).
  DERIVED. THE GIVEN ROWS OF THIS SEAT. 10 by the template 'for every input the law returns true; each argument reads behind the call as it read before'; 0 by the template 'total and deterministic' (their statements: YtmffjnipolicpaaTotals.lean).
  GIVEN WITH THE SEED: the statements are not yours to turn. If you find one false, say at which input.
  Laid BY PROGRAM, IN A SANDBOX (cutbox-rows.mjs): the forced cells as the released guide's own fill.sh prints them over the translation 96555551ae7cb7e8… (all of the seat's roots in one cut). By AI agents, Wed Nov 11 2026. No macro, syntax, notation, axiom, sorry.
-/
import Derived.Test.YtmffjnipolicpaaChecked
import GoSem.Claim
import GoSem.ClaimJoined
import GoSem.ClaimMapViews
import Derived.JoinedTies
import Derived.KernelRfl
namespace Go.Proofs.Ytmffjnipolicpaa
/- THE CELL 'sum', in the pinned program and in every row, IS THE sha256 OF THE DUMP (.gsa) THAT YtmffjnipolicpaaProg.lean LOADS. Nothing in Lean hashes anything: it is a label: what it is worth is what the hold of that sum in a sandbox is worth. -/
noncomputable def Try.pinned : Pinned := { name := "ytmffjnipolicpaa", sum := "96555551ae7cb7e89c535e0753652009e1ee389f4990608062af78a530e064ca", checked := Try.checked }
namespace Rows
def none {H : Type} : Left H := { results := [], args := [] }

/-- 'laws.FnExactDayNum': WHATEVER THE INPUT: true; the input reads as it did. -/
def fnExactDayNumSpec : ChangeSpec := { name := "fnExactDayNum", fn := fun _ => fun
  | [d] => { results := [.lit (.bool true)], args := [d] }
  | _ => none }
def fnExactDayNumRow : OpenClaim := { program := "ytmffjnipolicpaa", sum := "96555551ae7cb7e89c535e0753652009e1ee389f4990608062af78a530e064ca", func := "loop.example/cupel/laws.FnExactDayNum", spec := "fnExactDayNum", apart := false }
def FnExactDayNumSaid : Prop := fnExactDayNumRow.holds Try.pinned (OpenSpec.ofChange fnExactDayNumSpec)

/-- ITS FALSE NEIGHBOUR: 'it returns false'. Refute it at one input. -/
def fnExactDayNumWrong : ChangeSpec := { name := "fnExactDayNum", fn := fun _ => fun
  | [d] => { results := [.lit (.bool false)], args := [d] }
  | _ => none }
def FnExactDayNumWrongFalsely : Prop := fnExactDayNumRow.holds Try.pinned (OpenSpec.ofChange fnExactDayNumWrong)

/-- 'laws.FnExactDayPlus': WHATEVER THE INPUT: true; the input reads as it did. -/
def fnExactDayPlusSpec : ChangeSpec := { name := "fnExactDayPlus", fn := fun _ => fun
  | [d1, d2] => { results := [.lit (.bool true)], args := [d1, d2] }
  | _ => none }
def fnExactDayPlusRow : OpenClaim := { program := "ytmffjnipolicpaa", sum := "96555551ae7cb7e89c535e0753652009e1ee389f4990608062af78a530e064ca", func := "loop.example/cupel/laws.FnExactDayPlus", spec := "fnExactDayPlus", apart := false }
def FnExactDayPlusSaid : Prop := fnExactDayPlusRow.holds Try.pinned (OpenSpec.ofChange fnExactDayPlusSpec)

/-- ITS FALSE NEIGHBOUR: 'it returns false'. Refute it at one input. -/
def fnExactDayPlusWrong : ChangeSpec := { name := "fnExactDayPlus", fn := fun _ => fun
  | [d1, d2] => { results := [.lit (.bool false)], args := [d1, d2] }
  | _ => none }
def FnExactDayPlusWrongFalsely : Prop := fnExactDayPlusRow.holds Try.pinned (OpenSpec.ofChange fnExactDayPlusWrong)

/-- 'laws.FnSmpCount': WHATEVER THE INPUT: true; the input reads as it did. -/
def fnSmpCountSpec : ChangeSpec := { name := "fnSmpCount", fn := fun _ => fun
  | [d] => { results := [.lit (.bool true)], args := [d] }
  | _ => none }
def fnSmpCountRow : OpenClaim := { program := "ytmffjnipolicpaa", sum := "96555551ae7cb7e89c535e0753652009e1ee389f4990608062af78a530e064ca", func := "loop.example/cupel/laws.FnSmpCount", spec := "fnSmpCount", apart := false }
def FnSmpCountSaid : Prop := fnSmpCountRow.holds Try.pinned (OpenSpec.ofChange fnSmpCountSpec)

/-- ITS FALSE NEIGHBOUR: 'it returns false'. Refute it at one input. -/
def fnSmpCountWrong : ChangeSpec := { name := "fnSmpCount", fn := fun _ => fun
  | [d] => { results := [.lit (.bool false)], args := [d] }
  | _ => none }
def FnSmpCountWrongFalsely : Prop := fnSmpCountRow.holds Try.pinned (OpenSpec.ofChange fnSmpCountWrong)

/-- 'laws.FnExactSmpPick': WHATEVER THE INPUT: true; the input reads as it did. -/
def fnExactSmpPickSpec : ChangeSpec := { name := "fnExactSmpPick", fn := fun _ => fun
  | [d] => { results := [.lit (.bool true)], args := [d] }
  | _ => none }
def fnExactSmpPickRow : OpenClaim := { program := "ytmffjnipolicpaa", sum := "96555551ae7cb7e89c535e0753652009e1ee389f4990608062af78a530e064ca", func := "loop.example/cupel/laws.FnExactSmpPick", spec := "fnExactSmpPick", apart := false }
def FnExactSmpPickSaid : Prop := fnExactSmpPickRow.holds Try.pinned (OpenSpec.ofChange fnExactSmpPickSpec)

/-- ITS FALSE NEIGHBOUR: 'it returns false'. Refute it at one input. -/
def fnExactSmpPickWrong : ChangeSpec := { name := "fnExactSmpPick", fn := fun _ => fun
  | [d] => { results := [.lit (.bool false)], args := [d] }
  | _ => none }
def FnExactSmpPickWrongFalsely : Prop := fnExactSmpPickRow.holds Try.pinned (OpenSpec.ofChange fnExactSmpPickWrong)

/-- 'laws.FnExactDayOf': WHATEVER THE INPUT: true; the input reads as it did. -/
def fnExactDayOfSpec : ChangeSpec := { name := "fnExactDayOf", fn := fun _ => fun
  | [d] => { results := [.lit (.bool true)], args := [d] }
  | _ => none }
def fnExactDayOfRow : OpenClaim := { program := "ytmffjnipolicpaa", sum := "96555551ae7cb7e89c535e0753652009e1ee389f4990608062af78a530e064ca", func := "loop.example/cupel/laws.FnExactDayOf", spec := "fnExactDayOf", apart := false }
def FnExactDayOfSaid : Prop := fnExactDayOfRow.holds Try.pinned (OpenSpec.ofChange fnExactDayOfSpec)

/-- ITS FALSE NEIGHBOUR: 'it returns false'. Refute it at one input. -/
def fnExactDayOfWrong : ChangeSpec := { name := "fnExactDayOf", fn := fun _ => fun
  | [d] => { results := [.lit (.bool false)], args := [d] }
  | _ => none }
def FnExactDayOfWrongFalsely : Prop := fnExactDayOfRow.holds Try.pinned (OpenSpec.ofChange fnExactDayOfWrong)

/-- 'laws.FnSmpPick': WHATEVER THE INPUT: true; the input reads as it did. -/
def fnSmpPickSpec : ChangeSpec := { name := "fnSmpPick", fn := fun _ => fun
  | [d] => { results := [.lit (.bool true)], args := [d] }
  | _ => none }
def fnSmpPickRow : OpenClaim := { program := "ytmffjnipolicpaa", sum := "96555551ae7cb7e89c535e0753652009e1ee389f4990608062af78a530e064ca", func := "loop.example/cupel/laws.FnSmpPick", spec := "fnSmpPick", apart := false }
def FnSmpPickSaid : Prop := fnSmpPickRow.holds Try.pinned (OpenSpec.ofChange fnSmpPickSpec)

/-- ITS FALSE NEIGHBOUR: 'it returns false'. Refute it at one input. -/
def fnSmpPickWrong : ChangeSpec := { name := "fnSmpPick", fn := fun _ => fun
  | [d] => { results := [.lit (.bool false)], args := [d] }
  | _ => none }
def FnSmpPickWrongFalsely : Prop := fnSmpPickRow.holds Try.pinned (OpenSpec.ofChange fnSmpPickWrong)

/-- 'laws.FnDayAdds': WHATEVER THE INPUT: true; the input reads as it did. -/
def fnDayAddsSpec : ChangeSpec := { name := "fnDayAdds", fn := fun _ => fun
  | [d] => { results := [.lit (.bool true)], args := [d] }
  | _ => none }
def fnDayAddsRow : OpenClaim := { program := "ytmffjnipolicpaa", sum := "96555551ae7cb7e89c535e0753652009e1ee389f4990608062af78a530e064ca", func := "loop.example/cupel/laws.FnDayAdds", spec := "fnDayAdds", apart := false }
def FnDayAddsSaid : Prop := fnDayAddsRow.holds Try.pinned (OpenSpec.ofChange fnDayAddsSpec)

/-- ITS FALSE NEIGHBOUR: 'it returns false'. Refute it at one input. -/
def fnDayAddsWrong : ChangeSpec := { name := "fnDayAdds", fn := fun _ => fun
  | [d] => { results := [.lit (.bool false)], args := [d] }
  | _ => none }
def FnDayAddsWrongFalsely : Prop := fnDayAddsRow.holds Try.pinned (OpenSpec.ofChange fnDayAddsWrong)

/-- 'laws.FnDayOf': WHATEVER THE INPUT: true; the input reads as it did. -/
def fnDayOfSpec : ChangeSpec := { name := "fnDayOf", fn := fun _ => fun
  | [d] => { results := [.lit (.bool true)], args := [d] }
  | _ => none }
def fnDayOfRow : OpenClaim := { program := "ytmffjnipolicpaa", sum := "96555551ae7cb7e89c535e0753652009e1ee389f4990608062af78a530e064ca", func := "loop.example/cupel/laws.FnDayOf", spec := "fnDayOf", apart := false }
def FnDayOfSaid : Prop := fnDayOfRow.holds Try.pinned (OpenSpec.ofChange fnDayOfSpec)

/-- ITS FALSE NEIGHBOUR: 'it returns false'. Refute it at one input. -/
def fnDayOfWrong : ChangeSpec := { name := "fnDayOf", fn := fun _ => fun
  | [d] => { results := [.lit (.bool false)], args := [d] }
  | _ => none }
def FnDayOfWrongFalsely : Prop := fnDayOfRow.holds Try.pinned (OpenSpec.ofChange fnDayOfWrong)

/-- 'laws.FnDayNum': WHATEVER THE INPUT: true; the input reads as it did. -/
def fnDayNumSpec : ChangeSpec := { name := "fnDayNum", fn := fun _ => fun
  | [d1, d2] => { results := [.lit (.bool true)], args := [d1, d2] }
  | _ => none }
def fnDayNumRow : OpenClaim := { program := "ytmffjnipolicpaa", sum := "96555551ae7cb7e89c535e0753652009e1ee389f4990608062af78a530e064ca", func := "loop.example/cupel/laws.FnDayNum", spec := "fnDayNum", apart := false }
def FnDayNumSaid : Prop := fnDayNumRow.holds Try.pinned (OpenSpec.ofChange fnDayNumSpec)

/-- ITS FALSE NEIGHBOUR: 'it returns false'. Refute it at one input. -/
def fnDayNumWrong : ChangeSpec := { name := "fnDayNum", fn := fun _ => fun
  | [d1, d2] => { results := [.lit (.bool false)], args := [d1, d2] }
  | _ => none }
def FnDayNumWrongFalsely : Prop := fnDayNumRow.holds Try.pinned (OpenSpec.ofChange fnDayNumWrong)

/-- 'laws.FnDayPlus': WHATEVER THE INPUT: true; the input reads as it did. -/
def fnDayPlusSpec : ChangeSpec := { name := "fnDayPlus", fn := fun _ => fun
  | [d] => { results := [.lit (.bool true)], args := [d] }
  | _ => none }
def fnDayPlusRow : OpenClaim := { program := "ytmffjnipolicpaa", sum := "96555551ae7cb7e89c535e0753652009e1ee389f4990608062af78a530e064ca", func := "loop.example/cupel/laws.FnDayPlus", spec := "fnDayPlus", apart := false }
def FnDayPlusSaid : Prop := fnDayPlusRow.holds Try.pinned (OpenSpec.ofChange fnDayPlusSpec)

/-- ITS FALSE NEIGHBOUR: 'it returns false'. Refute it at one input. -/
def fnDayPlusWrong : ChangeSpec := { name := "fnDayPlus", fn := fun _ => fun
  | [d] => { results := [.lit (.bool false)], args := [d] }
  | _ => none }
def FnDayPlusWrongFalsely : Prop := fnDayPlusRow.holds Try.pinned (OpenSpec.ofChange fnDayPlusWrong)

/- THE SECOND FORM. 'bulk': how many values and letters a reading holds, each counted each time it is reached (what is shared counts as often as it is met; a slice's spare places count too). A statement '..UptoSaid' is the law's where the arguments, and the package variables that the reading takes, are together of bulk at most 1048576: NARROWER than '..Said'. Prove '..Said' where nothing that the law and all that it calls make is longer than what came in: it says more and counts as full. Else prove '..UptoSaid'. A law counts once. -/
mutual
def uptoBulk {H : Type} : DataW H → Nat
  | .lit (.string bytes) => bytes.length + 1
  | .lit _ => 1
  | .nil => 1
  | .ptr d => uptoBulk d + 1
  | .slice elems spare => uptoBulkAll elems + uptoBulkAll spare + 1
  | .agg parts => uptoBulkAll parts + 1
  | .iface _ d => uptoBulk d + 1
  | .map entries => uptoBulkEntries entries + 1
  | .held _ => 1
def uptoBulkAll {H : Type} : List (DataW H) → Nat
  | [] => 0
  | d :: r => uptoBulk d + uptoBulkAll r
def uptoBulkEntries {H : Type} : List (Lit × DataW H) → Nat
  | [] => 0
  | x :: r => uptoBulkEntry x + uptoBulkEntries r
def uptoBulkEntry {H : Type} : Lit × DataW H → Nat
  | (.string bytes, d) => bytes.length + uptoBulk d + 1
  | (_, d) => uptoBulk d + 1
 end
def uptoSmall : (H : Type) → List (DataW H) → Bool := fun _ ds => decide (uptoBulkAll ds ≤ 1048576)
def OpenSpec.upto (s : _root_.Go.ChangeSpec) : _root_.Go.OpenSpec := { _root_.Go.OpenSpec.ofChange s with cond := some uptoSmall }

/-- 'laws.FnExactDayNum', WHERE WHAT IT READS IS OF BULK AT MOST 1048576: true; the input reads as it did. -/
def fnExactDayNumUptoRow : OpenClaim := { program := "ytmffjnipolicpaa", sum := "96555551ae7cb7e89c535e0753652009e1ee389f4990608062af78a530e064ca", func := "loop.example/cupel/laws.FnExactDayNum", spec := "fnExactDayNum", apart := false, narrowed := true }
def FnExactDayNumUptoSaid : Prop := fnExactDayNumUptoRow.holds Try.pinned (OpenSpec.upto fnExactDayNumSpec)

/-- 'laws.FnExactDayPlus', WHERE WHAT IT READS IS OF BULK AT MOST 1048576: true; the input reads as it did. -/
def fnExactDayPlusUptoRow : OpenClaim := { program := "ytmffjnipolicpaa", sum := "96555551ae7cb7e89c535e0753652009e1ee389f4990608062af78a530e064ca", func := "loop.example/cupel/laws.FnExactDayPlus", spec := "fnExactDayPlus", apart := false, narrowed := true }
def FnExactDayPlusUptoSaid : Prop := fnExactDayPlusUptoRow.holds Try.pinned (OpenSpec.upto fnExactDayPlusSpec)

/-- 'laws.FnSmpCount', WHERE WHAT IT READS IS OF BULK AT MOST 1048576: true; the input reads as it did. -/
def fnSmpCountUptoRow : OpenClaim := { program := "ytmffjnipolicpaa", sum := "96555551ae7cb7e89c535e0753652009e1ee389f4990608062af78a530e064ca", func := "loop.example/cupel/laws.FnSmpCount", spec := "fnSmpCount", apart := false, narrowed := true }
def FnSmpCountUptoSaid : Prop := fnSmpCountUptoRow.holds Try.pinned (OpenSpec.upto fnSmpCountSpec)

/-- 'laws.FnExactSmpPick', WHERE WHAT IT READS IS OF BULK AT MOST 1048576: true; the input reads as it did. -/
def fnExactSmpPickUptoRow : OpenClaim := { program := "ytmffjnipolicpaa", sum := "96555551ae7cb7e89c535e0753652009e1ee389f4990608062af78a530e064ca", func := "loop.example/cupel/laws.FnExactSmpPick", spec := "fnExactSmpPick", apart := false, narrowed := true }
def FnExactSmpPickUptoSaid : Prop := fnExactSmpPickUptoRow.holds Try.pinned (OpenSpec.upto fnExactSmpPickSpec)

/-- 'laws.FnExactDayOf', WHERE WHAT IT READS IS OF BULK AT MOST 1048576: true; the input reads as it did. -/
def fnExactDayOfUptoRow : OpenClaim := { program := "ytmffjnipolicpaa", sum := "96555551ae7cb7e89c535e0753652009e1ee389f4990608062af78a530e064ca", func := "loop.example/cupel/laws.FnExactDayOf", spec := "fnExactDayOf", apart := false, narrowed := true }
def FnExactDayOfUptoSaid : Prop := fnExactDayOfUptoRow.holds Try.pinned (OpenSpec.upto fnExactDayOfSpec)

/-- 'laws.FnSmpPick', WHERE WHAT IT READS IS OF BULK AT MOST 1048576: true; the input reads as it did. -/
def fnSmpPickUptoRow : OpenClaim := { program := "ytmffjnipolicpaa", sum := "96555551ae7cb7e89c535e0753652009e1ee389f4990608062af78a530e064ca", func := "loop.example/cupel/laws.FnSmpPick", spec := "fnSmpPick", apart := false, narrowed := true }
def FnSmpPickUptoSaid : Prop := fnSmpPickUptoRow.holds Try.pinned (OpenSpec.upto fnSmpPickSpec)

/-- 'laws.FnDayAdds', WHERE WHAT IT READS IS OF BULK AT MOST 1048576: true; the input reads as it did. -/
def fnDayAddsUptoRow : OpenClaim := { program := "ytmffjnipolicpaa", sum := "96555551ae7cb7e89c535e0753652009e1ee389f4990608062af78a530e064ca", func := "loop.example/cupel/laws.FnDayAdds", spec := "fnDayAdds", apart := false, narrowed := true }
def FnDayAddsUptoSaid : Prop := fnDayAddsUptoRow.holds Try.pinned (OpenSpec.upto fnDayAddsSpec)

/-- 'laws.FnDayOf', WHERE WHAT IT READS IS OF BULK AT MOST 1048576: true; the input reads as it did. -/
def fnDayOfUptoRow : OpenClaim := { program := "ytmffjnipolicpaa", sum := "96555551ae7cb7e89c535e0753652009e1ee389f4990608062af78a530e064ca", func := "loop.example/cupel/laws.FnDayOf", spec := "fnDayOf", apart := false, narrowed := true }
def FnDayOfUptoSaid : Prop := fnDayOfUptoRow.holds Try.pinned (OpenSpec.upto fnDayOfSpec)

/-- 'laws.FnDayNum', WHERE WHAT IT READS IS OF BULK AT MOST 1048576: true; the input reads as it did. -/
def fnDayNumUptoRow : OpenClaim := { program := "ytmffjnipolicpaa", sum := "96555551ae7cb7e89c535e0753652009e1ee389f4990608062af78a530e064ca", func := "loop.example/cupel/laws.FnDayNum", spec := "fnDayNum", apart := false, narrowed := true }
def FnDayNumUptoSaid : Prop := fnDayNumUptoRow.holds Try.pinned (OpenSpec.upto fnDayNumSpec)

/-- 'laws.FnDayPlus', WHERE WHAT IT READS IS OF BULK AT MOST 1048576: true; the input reads as it did. -/
def fnDayPlusUptoRow : OpenClaim := { program := "ytmffjnipolicpaa", sum := "96555551ae7cb7e89c535e0753652009e1ee389f4990608062af78a530e064ca", func := "loop.example/cupel/laws.FnDayPlus", spec := "fnDayPlus", apart := false, narrowed := true }
def FnDayPlusUptoSaid : Prop := fnDayPlusUptoRow.holds Try.pinned (OpenSpec.upto fnDayPlusSpec)

end Rows
end Go.Proofs.Ytmffjnipolicpaa
