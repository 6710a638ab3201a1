/-
  No cell of these rows narrows 'for every input' (looked for: loops, veiled, ifaces, maps, wideKeys, modest, calm, conditions, laid).
  DERIVED. THE GIVEN ROWS OF THIS SEAT. 12 by the template 'for every input the law returns true; each argument reads behind the call as it read before'; 0 by the template 'total and deterministic' (their statements: YtcollniblajhiaaTotals.lean).
  GIVEN WITH THE SEED: the statements are not yours to turn. If you find one false, say at which input.
  Laid BY PROGRAM, IN A SANDBOX (cutbox-rows.mjs): the forced cells as the released guide's own fill.sh prints them over the translation 76285e0f5fbd25f4… (all of the seat's roots in one cut). By AI agents, Wed Nov 11 2026. No macro, syntax, notation, axiom, sorry.
-/
import Derived.Test.YtcollniblajhiaaChecked
import GoSem.Claim
import GoSem.ClaimJoined
import GoSem.ClaimMapViews
import Derived.JoinedTies
import Derived.KernelRfl
namespace Go.Proofs.Ytcollniblajhiaa
/- THE CELL 'sum', in the pinned program and in every row, IS THE sha256 OF THE DUMP (.gsa) THAT YtcollniblajhiaaProg.lean LOADS. Nothing in Lean hashes anything: it is a label: what it is worth is what the hold of that sum in a sandbox is worth. -/
noncomputable def Try.pinned : Pinned := { name := "ytcollniblajhiaa", sum := "76285e0f5fbd25f4a21961984f9c48103864a3dfbe5228e0e590b429b20fc4a6", checked := Try.checked }
namespace Rows
def none {H : Type} : Left H := { results := [], args := [] }

/-- 'laws.FnExactConstants': WHATEVER THE INPUT: true; the input reads as it did. -/
def fnExactConstantsSpec : ChangeSpec := { name := "fnExactConstants", fn := fun _ => fun
  | [] => { results := [.lit (.bool true)], args := [] }
  | _ => none }
def fnExactConstantsRow : OpenClaim := { program := "ytcollniblajhiaa", sum := "76285e0f5fbd25f4a21961984f9c48103864a3dfbe5228e0e590b429b20fc4a6", func := "loop.example/cupel/laws.FnExactConstants", spec := "fnExactConstants", apart := false }
def FnExactConstantsSaid : Prop := fnExactConstantsRow.holds Try.pinned (OpenSpec.ofChange fnExactConstantsSpec)

/-- ITS FALSE NEIGHBOUR: 'it returns false'. Refute it at one input. -/
def fnExactConstantsWrong : ChangeSpec := { name := "fnExactConstants", fn := fun _ => fun
  | [] => { results := [.lit (.bool false)], args := [] }
  | _ => none }
def FnExactConstantsWrongFalsely : Prop := fnExactConstantsRow.holds Try.pinned (OpenSpec.ofChange fnExactConstantsWrong)

/-- 'laws.FnExactDayLeap': WHATEVER THE INPUT: true; the input reads as it did. -/
def fnExactDayLeapSpec : ChangeSpec := { name := "fnExactDayLeap", fn := fun _ => fun
  | [d] => { results := [.lit (.bool true)], args := [d] }
  | _ => none }
def fnExactDayLeapRow : OpenClaim := { program := "ytcollniblajhiaa", sum := "76285e0f5fbd25f4a21961984f9c48103864a3dfbe5228e0e590b429b20fc4a6", func := "loop.example/cupel/laws.FnExactDayLeap", spec := "fnExactDayLeap", apart := false }
def FnExactDayLeapSaid : Prop := fnExactDayLeapRow.holds Try.pinned (OpenSpec.ofChange fnExactDayLeapSpec)

/-- ITS FALSE NEIGHBOUR: 'it returns false'. Refute it at one input. -/
def fnExactDayLeapWrong : ChangeSpec := { name := "fnExactDayLeap", fn := fun _ => fun
  | [d] => { results := [.lit (.bool false)], args := [d] }
  | _ => none }
def FnExactDayLeapWrongFalsely : Prop := fnExactDayLeapRow.holds Try.pinned (OpenSpec.ofChange fnExactDayLeapWrong)

/-- 'laws.FnExactTstNeed': WHATEVER THE INPUT: true; the input reads as it did. -/
def fnExactTstNeedSpec : ChangeSpec := { name := "fnExactTstNeed", fn := fun _ => fun
  | [d] => { results := [.lit (.bool true)], args := [d] }
  | _ => none }
def fnExactTstNeedRow : OpenClaim := { program := "ytcollniblajhiaa", sum := "76285e0f5fbd25f4a21961984f9c48103864a3dfbe5228e0e590b429b20fc4a6", func := "loop.example/cupel/laws.FnExactTstNeed", spec := "fnExactTstNeed", apart := false }
def FnExactTstNeedSaid : Prop := fnExactTstNeedRow.holds Try.pinned (OpenSpec.ofChange fnExactTstNeedSpec)

/-- ITS FALSE NEIGHBOUR: 'it returns false'. Refute it at one input. -/
def fnExactTstNeedWrong : ChangeSpec := { name := "fnExactTstNeed", fn := fun _ => fun
  | [d] => { results := [.lit (.bool false)], args := [d] }
  | _ => none }
def FnExactTstNeedWrongFalsely : Prop := fnExactTstNeedRow.holds Try.pinned (OpenSpec.ofChange fnExactTstNeedWrong)

/-- 'laws.FnExactSmpRoot': WHATEVER THE INPUT: true; the input reads as it did. -/
def fnExactSmpRootSpec : ChangeSpec := { name := "fnExactSmpRoot", fn := fun _ => fun
  | [d] => { results := [.lit (.bool true)], args := [d] }
  | _ => none }
def fnExactSmpRootRow : OpenClaim := { program := "ytcollniblajhiaa", sum := "76285e0f5fbd25f4a21961984f9c48103864a3dfbe5228e0e590b429b20fc4a6", func := "loop.example/cupel/laws.FnExactSmpRoot", spec := "fnExactSmpRoot", apart := false }
def FnExactSmpRootSaid : Prop := fnExactSmpRootRow.holds Try.pinned (OpenSpec.ofChange fnExactSmpRootSpec)

/-- ITS FALSE NEIGHBOUR: 'it returns false'. Refute it at one input. -/
def fnExactSmpRootWrong : ChangeSpec := { name := "fnExactSmpRoot", fn := fun _ => fun
  | [d] => { results := [.lit (.bool false)], args := [d] }
  | _ => none }
def FnExactSmpRootWrongFalsely : Prop := fnExactSmpRootRow.holds Try.pinned (OpenSpec.ofChange fnExactSmpRootWrong)

/-- 'laws.FnExactDayLast': WHATEVER THE INPUT: true; the input reads as it did. -/
def fnExactDayLastSpec : ChangeSpec := { name := "fnExactDayLast", fn := fun _ => fun
  | [d1, d2] => { results := [.lit (.bool true)], args := [d1, d2] }
  | _ => none }
def fnExactDayLastRow : OpenClaim := { program := "ytcollniblajhiaa", sum := "76285e0f5fbd25f4a21961984f9c48103864a3dfbe5228e0e590b429b20fc4a6", func := "loop.example/cupel/laws.FnExactDayLast", spec := "fnExactDayLast", apart := false }
def FnExactDayLastSaid : Prop := fnExactDayLastRow.holds Try.pinned (OpenSpec.ofChange fnExactDayLastSpec)

/-- ITS FALSE NEIGHBOUR: 'it returns false'. Refute it at one input. -/
def fnExactDayLastWrong : ChangeSpec := { name := "fnExactDayLast", fn := fun _ => fun
  | [d1, d2] => { results := [.lit (.bool false)], args := [d1, d2] }
  | _ => none }
def FnExactDayLastWrongFalsely : Prop := fnExactDayLastRow.holds Try.pinned (OpenSpec.ofChange fnExactDayLastWrong)

/-- 'laws.FnExactDecOk': WHATEVER THE INPUT: true; the input reads as it did. -/
def fnExactDecOkSpec : ChangeSpec := { name := "fnExactDecOk", fn := fun _ => fun
  | [d] => { results := [.lit (.bool true)], args := [d] }
  | _ => none }
def fnExactDecOkRow : OpenClaim := { program := "ytcollniblajhiaa", sum := "76285e0f5fbd25f4a21961984f9c48103864a3dfbe5228e0e590b429b20fc4a6", func := "loop.example/cupel/laws.FnExactDecOk", spec := "fnExactDecOk", apart := false }
def FnExactDecOkSaid : Prop := fnExactDecOkRow.holds Try.pinned (OpenSpec.ofChange fnExactDecOkSpec)

/-- ITS FALSE NEIGHBOUR: 'it returns false'. Refute it at one input. -/
def fnExactDecOkWrong : ChangeSpec := { name := "fnExactDecOk", fn := fun _ => fun
  | [d] => { results := [.lit (.bool false)], args := [d] }
  | _ => none }
def FnExactDecOkWrongFalsely : Prop := fnExactDecOkRow.holds Try.pinned (OpenSpec.ofChange fnExactDecOkWrong)

/-- 'laws.FnExactSmpCount': WHATEVER THE INPUT: true; the input reads as it did. -/
def fnExactSmpCountSpec : ChangeSpec := { name := "fnExactSmpCount", fn := fun _ => fun
  | [d] => { results := [.lit (.bool true)], args := [d] }
  | _ => none }
def fnExactSmpCountRow : OpenClaim := { program := "ytcollniblajhiaa", sum := "76285e0f5fbd25f4a21961984f9c48103864a3dfbe5228e0e590b429b20fc4a6", func := "loop.example/cupel/laws.FnExactSmpCount", spec := "fnExactSmpCount", apart := false }
def FnExactSmpCountSaid : Prop := fnExactSmpCountRow.holds Try.pinned (OpenSpec.ofChange fnExactSmpCountSpec)

/-- ITS FALSE NEIGHBOUR: 'it returns false'. Refute it at one input. -/
def fnExactSmpCountWrong : ChangeSpec := { name := "fnExactSmpCount", fn := fun _ => fun
  | [d] => { results := [.lit (.bool false)], args := [d] }
  | _ => none }
def FnExactSmpCountWrongFalsely : Prop := fnExactSmpCountRow.holds Try.pinned (OpenSpec.ofChange fnExactSmpCountWrong)

/-- 'laws.FnExactDayOk': WHATEVER THE INPUT: true; the input reads as it did. -/
def fnExactDayOkSpec : ChangeSpec := { name := "fnExactDayOk", fn := fun _ => fun
  | [d] => { results := [.lit (.bool true)], args := [d] }
  | _ => none }
def fnExactDayOkRow : OpenClaim := { program := "ytcollniblajhiaa", sum := "76285e0f5fbd25f4a21961984f9c48103864a3dfbe5228e0e590b429b20fc4a6", func := "loop.example/cupel/laws.FnExactDayOk", spec := "fnExactDayOk", apart := false }
def FnExactDayOkSaid : Prop := fnExactDayOkRow.holds Try.pinned (OpenSpec.ofChange fnExactDayOkSpec)

/-- ITS FALSE NEIGHBOUR: 'it returns false'. Refute it at one input. -/
def fnExactDayOkWrong : ChangeSpec := { name := "fnExactDayOk", fn := fun _ => fun
  | [d] => { results := [.lit (.bool false)], args := [d] }
  | _ => none }
def FnExactDayOkWrongFalsely : Prop := fnExactDayOkRow.holds Try.pinned (OpenSpec.ofChange fnExactDayOkWrong)

/-- 'laws.FnExactReqMay': WHATEVER THE INPUT: true; the input reads as it did. -/
def fnExactReqMaySpec : ChangeSpec := { name := "fnExactReqMay", fn := fun _ => fun
  | [d1, d2] => { results := [.lit (.bool true)], args := [d1, d2] }
  | _ => none }
def fnExactReqMayRow : OpenClaim := { program := "ytcollniblajhiaa", sum := "76285e0f5fbd25f4a21961984f9c48103864a3dfbe5228e0e590b429b20fc4a6", func := "loop.example/cupel/laws.FnExactReqMay", spec := "fnExactReqMay", apart := false }
def FnExactReqMaySaid : Prop := fnExactReqMayRow.holds Try.pinned (OpenSpec.ofChange fnExactReqMaySpec)

/-- ITS FALSE NEIGHBOUR: 'it returns false'. Refute it at one input. -/
def fnExactReqMayWrong : ChangeSpec := { name := "fnExactReqMay", fn := fun _ => fun
  | [d1, d2] => { results := [.lit (.bool false)], args := [d1, d2] }
  | _ => none }
def FnExactReqMayWrongFalsely : Prop := fnExactReqMayRow.holds Try.pinned (OpenSpec.ofChange fnExactReqMayWrong)

/-- 'laws.FnDayLast': WHATEVER THE INPUT: true; the input reads as it did. -/
def fnDayLastSpec : ChangeSpec := { name := "fnDayLast", fn := fun _ => fun
  | [d1, d2] => { results := [.lit (.bool true)], args := [d1, d2] }
  | _ => none }
def fnDayLastRow : OpenClaim := { program := "ytcollniblajhiaa", sum := "76285e0f5fbd25f4a21961984f9c48103864a3dfbe5228e0e590b429b20fc4a6", func := "loop.example/cupel/laws.FnDayLast", spec := "fnDayLast", apart := false }
def FnDayLastSaid : Prop := fnDayLastRow.holds Try.pinned (OpenSpec.ofChange fnDayLastSpec)

/-- ITS FALSE NEIGHBOUR: 'it returns false'. Refute it at one input. -/
def fnDayLastWrong : ChangeSpec := { name := "fnDayLast", fn := fun _ => fun
  | [d1, d2] => { results := [.lit (.bool false)], args := [d1, d2] }
  | _ => none }
def FnDayLastWrongFalsely : Prop := fnDayLastRow.holds Try.pinned (OpenSpec.ofChange fnDayLastWrong)

/-- 'laws.FnSmpRoot': WHATEVER THE INPUT: true; the input reads as it did. -/
def fnSmpRootSpec : ChangeSpec := { name := "fnSmpRoot", fn := fun _ => fun
  | [d] => { results := [.lit (.bool true)], args := [d] }
  | _ => none }
def fnSmpRootRow : OpenClaim := { program := "ytcollniblajhiaa", sum := "76285e0f5fbd25f4a21961984f9c48103864a3dfbe5228e0e590b429b20fc4a6", func := "loop.example/cupel/laws.FnSmpRoot", spec := "fnSmpRoot", apart := false }
def FnSmpRootSaid : Prop := fnSmpRootRow.holds Try.pinned (OpenSpec.ofChange fnSmpRootSpec)

/-- ITS FALSE NEIGHBOUR: 'it returns false'. Refute it at one input. -/
def fnSmpRootWrong : ChangeSpec := { name := "fnSmpRoot", fn := fun _ => fun
  | [d] => { results := [.lit (.bool false)], args := [d] }
  | _ => none }
def FnSmpRootWrongFalsely : Prop := fnSmpRootRow.holds Try.pinned (OpenSpec.ofChange fnSmpRootWrong)

/-- 'laws.FnReqMay': WHATEVER THE INPUT: true; the input reads as it did. -/
def fnReqMaySpec : ChangeSpec := { name := "fnReqMay", fn := fun _ => fun
  | [d] => { results := [.lit (.bool true)], args := [d] }
  | _ => none }
def fnReqMayRow : OpenClaim := { program := "ytcollniblajhiaa", sum := "76285e0f5fbd25f4a21961984f9c48103864a3dfbe5228e0e590b429b20fc4a6", func := "loop.example/cupel/laws.FnReqMay", spec := "fnReqMay", apart := false }
def FnReqMaySaid : Prop := fnReqMayRow.holds Try.pinned (OpenSpec.ofChange fnReqMaySpec)

/-- ITS FALSE NEIGHBOUR: 'it returns false'. Refute it at one input. -/
def fnReqMayWrong : ChangeSpec := { name := "fnReqMay", fn := fun _ => fun
  | [d] => { results := [.lit (.bool false)], args := [d] }
  | _ => none }
def FnReqMayWrongFalsely : Prop := fnReqMayRow.holds Try.pinned (OpenSpec.ofChange fnReqMayWrong)

/- THE SECOND FORM. 'bulk': how many values and letters a reading holds, each counted each time it is reached (what is shared counts as often as it is met; a slice's spare places count too). A statement '..UptoSaid' is the law's where the arguments, and the package variables that the reading takes, are together of bulk at most 1048576: NARROWER than '..Said'. Prove '..Said' where nothing that the law and all that it calls make is longer than what came in: it says more and counts as full. Else prove '..UptoSaid'. A law counts once. -/
mutual
def uptoBulk {H : Type} : DataW H → Nat
  | .lit (.string bytes) => bytes.length + 1
  | .lit _ => 1
  | .nil => 1
  | .ptr d => uptoBulk d + 1
  | .slice elems spare => uptoBulkAll elems + uptoBulkAll spare + 1
  | .agg parts => uptoBulkAll parts + 1
  | .iface _ d => uptoBulk d + 1
  | .map entries => uptoBulkEntries entries + 1
  | .held _ => 1
def uptoBulkAll {H : Type} : List (DataW H) → Nat
  | [] => 0
  | d :: r => uptoBulk d + uptoBulkAll r
def uptoBulkEntries {H : Type} : List (Lit × DataW H) → Nat
  | [] => 0
  | x :: r => uptoBulkEntry x + uptoBulkEntries r
def uptoBulkEntry {H : Type} : Lit × DataW H → Nat
  | (.string bytes, d) => bytes.length + uptoBulk d + 1
  | (_, d) => uptoBulk d + 1
 end
def uptoSmall : (H : Type) → List (DataW H) → Bool := fun _ ds => decide (uptoBulkAll ds ≤ 1048576)
def OpenSpec.upto (s : _root_.Go.ChangeSpec) : _root_.Go.OpenSpec := { _root_.Go.OpenSpec.ofChange s with cond := some uptoSmall }

/-- 'laws.FnExactConstants', WHERE WHAT IT READS IS OF BULK AT MOST 1048576: true; the input reads as it did. -/
def fnExactConstantsUptoRow : OpenClaim := { program := "ytcollniblajhiaa", sum := "76285e0f5fbd25f4a21961984f9c48103864a3dfbe5228e0e590b429b20fc4a6", func := "loop.example/cupel/laws.FnExactConstants", spec := "fnExactConstants", apart := false, narrowed := true }
def FnExactConstantsUptoSaid : Prop := fnExactConstantsUptoRow.holds Try.pinned (OpenSpec.upto fnExactConstantsSpec)

/-- 'laws.FnExactDayLeap', WHERE WHAT IT READS IS OF BULK AT MOST 1048576: true; the input reads as it did. -/
def fnExactDayLeapUptoRow : OpenClaim := { program := "ytcollniblajhiaa", sum := "76285e0f5fbd25f4a21961984f9c48103864a3dfbe5228e0e590b429b20fc4a6", func := "loop.example/cupel/laws.FnExactDayLeap", spec := "fnExactDayLeap", apart := false, narrowed := true }
def FnExactDayLeapUptoSaid : Prop := fnExactDayLeapUptoRow.holds Try.pinned (OpenSpec.upto fnExactDayLeapSpec)

/-- 'laws.FnExactTstNeed', WHERE WHAT IT READS IS OF BULK AT MOST 1048576: true; the input reads as it did. -/
def fnExactTstNeedUptoRow : OpenClaim := { program := "ytcollniblajhiaa", sum := "76285e0f5fbd25f4a21961984f9c48103864a3dfbe5228e0e590b429b20fc4a6", func := "loop.example/cupel/laws.FnExactTstNeed", spec := "fnExactTstNeed", apart := false, narrowed := true }
def FnExactTstNeedUptoSaid : Prop := fnExactTstNeedUptoRow.holds Try.pinned (OpenSpec.upto fnExactTstNeedSpec)

/-- 'laws.FnExactSmpRoot', WHERE WHAT IT READS IS OF BULK AT MOST 1048576: true; the input reads as it did. -/
def fnExactSmpRootUptoRow : OpenClaim := { program := "ytcollniblajhiaa", sum := "76285e0f5fbd25f4a21961984f9c48103864a3dfbe5228e0e590b429b20fc4a6", func := "loop.example/cupel/laws.FnExactSmpRoot", spec := "fnExactSmpRoot", apart := false, narrowed := true }
def FnExactSmpRootUptoSaid : Prop := fnExactSmpRootUptoRow.holds Try.pinned (OpenSpec.upto fnExactSmpRootSpec)

/-- 'laws.FnExactDayLast', WHERE WHAT IT READS IS OF BULK AT MOST 1048576: true; the input reads as it did. -/
def fnExactDayLastUptoRow : OpenClaim := { program := "ytcollniblajhiaa", sum := "76285e0f5fbd25f4a21961984f9c48103864a3dfbe5228e0e590b429b20fc4a6", func := "loop.example/cupel/laws.FnExactDayLast", spec := "fnExactDayLast", apart := false, narrowed := true }
def FnExactDayLastUptoSaid : Prop := fnExactDayLastUptoRow.holds Try.pinned (OpenSpec.upto fnExactDayLastSpec)

/-- 'laws.FnExactDecOk', WHERE WHAT IT READS IS OF BULK AT MOST 1048576: true; the input reads as it did. -/
def fnExactDecOkUptoRow : OpenClaim := { program := "ytcollniblajhiaa", sum := "76285e0f5fbd25f4a21961984f9c48103864a3dfbe5228e0e590b429b20fc4a6", func := "loop.example/cupel/laws.FnExactDecOk", spec := "fnExactDecOk", apart := false, narrowed := true }
def FnExactDecOkUptoSaid : Prop := fnExactDecOkUptoRow.holds Try.pinned (OpenSpec.upto fnExactDecOkSpec)

/-- 'laws.FnExactSmpCount', WHERE WHAT IT READS IS OF BULK AT MOST 1048576: true; the input reads as it did. -/
def fnExactSmpCountUptoRow : OpenClaim := { program := "ytcollniblajhiaa", sum := "76285e0f5fbd25f4a21961984f9c48103864a3dfbe5228e0e590b429b20fc4a6", func := "loop.example/cupel/laws.FnExactSmpCount", spec := "fnExactSmpCount", apart := false, narrowed := true }
def FnExactSmpCountUptoSaid : Prop := fnExactSmpCountUptoRow.holds Try.pinned (OpenSpec.upto fnExactSmpCountSpec)

/-- 'laws.FnExactDayOk', WHERE WHAT IT READS IS OF BULK AT MOST 1048576: true; the input reads as it did. -/
def fnExactDayOkUptoRow : OpenClaim := { program := "ytcollniblajhiaa", sum := "76285e0f5fbd25f4a21961984f9c48103864a3dfbe5228e0e590b429b20fc4a6", func := "loop.example/cupel/laws.FnExactDayOk", spec := "fnExactDayOk", apart := false, narrowed := true }
def FnExactDayOkUptoSaid : Prop := fnExactDayOkUptoRow.holds Try.pinned (OpenSpec.upto fnExactDayOkSpec)

/-- 'laws.FnExactReqMay', WHERE WHAT IT READS IS OF BULK AT MOST 1048576: true; the input reads as it did. -/
def fnExactReqMayUptoRow : OpenClaim := { program := "ytcollniblajhiaa", sum := "76285e0f5fbd25f4a21961984f9c48103864a3dfbe5228e0e590b429b20fc4a6", func := "loop.example/cupel/laws.FnExactReqMay", spec := "fnExactReqMay", apart := false, narrowed := true }
def FnExactReqMayUptoSaid : Prop := fnExactReqMayUptoRow.holds Try.pinned (OpenSpec.upto fnExactReqMaySpec)

/-- 'laws.FnDayLast', WHERE WHAT IT READS IS OF BULK AT MOST 1048576: true; the input reads as it did. -/
def fnDayLastUptoRow : OpenClaim := { program := "ytcollniblajhiaa", sum := "76285e0f5fbd25f4a21961984f9c48103864a3dfbe5228e0e590b429b20fc4a6", func := "loop.example/cupel/laws.FnDayLast", spec := "fnDayLast", apart := false, narrowed := true }
def FnDayLastUptoSaid : Prop := fnDayLastUptoRow.holds Try.pinned (OpenSpec.upto fnDayLastSpec)

/-- 'laws.FnSmpRoot', WHERE WHAT IT READS IS OF BULK AT MOST 1048576: true; the input reads as it did. -/
def fnSmpRootUptoRow : OpenClaim := { program := "ytcollniblajhiaa", sum := "76285e0f5fbd25f4a21961984f9c48103864a3dfbe5228e0e590b429b20fc4a6", func := "loop.example/cupel/laws.FnSmpRoot", spec := "fnSmpRoot", apart := false, narrowed := true }
def FnSmpRootUptoSaid : Prop := fnSmpRootUptoRow.holds Try.pinned (OpenSpec.upto fnSmpRootSpec)

/-- 'laws.FnReqMay', WHERE WHAT IT READS IS OF BULK AT MOST 1048576: true; the input reads as it did. -/
def fnReqMayUptoRow : OpenClaim := { program := "ytcollniblajhiaa", sum := "76285e0f5fbd25f4a21961984f9c48103864a3dfbe5228e0e590b429b20fc4a6", func := "loop.example/cupel/laws.FnReqMay", spec := "fnReqMay", apart := false, narrowed := true }
def FnReqMayUptoSaid : Prop := fnReqMayUptoRow.holds Try.pinned (OpenSpec.upto fnReqMaySpec)

end Rows
end Go.Proofs.Ytcollniblajhiaa
