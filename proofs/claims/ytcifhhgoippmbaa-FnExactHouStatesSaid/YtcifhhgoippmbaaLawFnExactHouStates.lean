-- Written by the session's own program wip/allprint.py, which drives the kit's print; Lean checks it.
import Derived.Test.YtcifhhgoippmbaaRows
import Derived.Test.YtcifhhgoippmbaaAllx12
import Derived.Test.YtcifhhgoippmbaaOpen
import Derived.Test.YtcifhhgoippmbaaPureFnExactHouStates
import Derived.WalkKit
import Derived.ProofKit
import Derived.OpenShut
import Derived.ShutString
import Derived.ChangeOld
import Derived.Below
import Derived.SizedLaws
import Derived.Carry
namespace Go.Proofs.Ytcifhhgoippmbaa.fnExactHouStates
open Go.ChangeShapes Go.WideShapes Go.ChangeAt Go.RowKit Go.Proofs.YtcifhhgoippmbaaW.PrintWords Go.Proofs.Ytcifhhgoippmbaa.All
open Go.ChangeMaps (open_string shut_string)
set_option linter.unusedVariables false
theorem own : ownKnob Try.prog.godebug = none := by kernel_rfl
theorem laidOut : laidOutB Try.prog = true := by kernel_rfl
set_option maxRecDepth 100000 in
set_option maxHeartbeats 1000000 in
theorem lifted (os : Os) (started : os.Started) (H : Type) (enc : TypeId × Value → H) :
    ReturnsInHanded {} Try.checked os 3 .any (Rows.fnExactHouStatesSpec.pre6 enc Try.prog Try.f3 Rows.fnExactHouStatesRow.domain false) (Rows.fnExactHouStatesSpec.post enc Try.prog Try.f3 false true false false) := by
  refine returnsInHanded_of_change_sized (C := Try.checked) own started (by kernel_rfl) Try.func3
    (ChangeSpec.witness6 (enc := enc) (C := Try.checked) false ⟨#[], #[.agg #[.slice none 0 0, .slice none 0 0, .slice none 0 0]], []⟩ 8 (by kernel_rfl) (by kernel_rfl) (by kernel_rfl) (by kernel_rfl)) ?_
  intro W base args ds gs before hval0 hW hcnd hsz0 _
  have hval : ∀ (j : Nat) t v, Try.f3.params[j]? = some t → args[j]? = some v → Value.okWide Try.prog W .any base t v := hval0
  have hW' := hW
  obtain ⟨p, q, hA0, hV, rfl, hfz, hnd⟩ := hW
  have hA : DataW.TrodAll enc Try.prog W 0 (fun _ => true) true Try.f3.params.toList args.toList ds p := hA0
  rw [Try.params3] at hA hval
  obtain ⟨v0, vs0, d0, ds0, p0, q0, hargs, rfl, rfl, h0, r0⟩ := trodAll_cons hA
  obtain ⟨rfl, rfl, rfl⟩ := trodAll_nil r0
  obtain rfl : args = #[v0] := by cases args; simp_all
  obtain ⟨rfl, rfl⟩ := trodVars_none hV
  have k0 := h0
  have lt0 : ∀ x ∈ p0, x.block < W.heap.size := by obtain ⟨m, hm⟩ := k0; exact DataW.trod_lt m _ _ _ hm
  obtain ⟨fuel0, hf_0⟩ := h0
  obtain ⟨cs0, rfl, hsz0⟩ := okWide_struct Try.underlying26 (hval 0 26 v0 rfl rfl)
  obtain ⟨c0_0, c0_1, c0_2, hcs0⟩ := list3 (l := cs0.toList) ((by simpa using hsz0 : cs0.toList.length = _).trans (by kernel_rfl))
  obtain rfl : cs0 = #[c0_0, c0_1, c0_2] := by rw [← Array.toArray_toList (xs := cs0), hcs0]
  have hg0 : DataW.trod enc Try.prog W 0 (fun _ => true) true fuel0 26 [c0_0, c0_1, c0_2] = some (d0, p0) := hf_0
  obtain ⟨xs0, n0, _, _, hl0, hx0, hf0⟩ := DataW.trod_struct Try.underlying26 hg0
  have z0_0 := hf0 0 _ rfl
  rw [List.getElem?_eq_getElem (by rw [hx0]; decide)] at z0_0
  have ez0_0 : Try.prog.cellsOf 22 = 1 := by kernel_rfl
  change DataW.trod enc Try.prog W 0 (fun _ => true) true n0 22 (List.take (Try.prog.cellsOf 22) (List.drop 0 [c0_0, c0_1, c0_2])) = some _ at z0_0
  rw [ez0_0] at z0_0
  change DataW.trod enc Try.prog W 0 (fun _ => true) true n0 22 [c0_0] = some _ at z0_0
  obtain ⟨l0_0, ⟨A0_0, c0_0_, hA0_0, hc0_0, hr0_0⟩, gl0_0⟩ := (opens_slice (e' := 3) Try.underlying22 (opens_int Try.underlying3) (by kernel_rfl)) _ _ _ _ _ _ _ _ _ z0_0
  obtain rfl : c0_0 = .slice A0_0 l0_0.length c0_0_ := by simpa using hA0_0
  have z0_1 := hf0 1 _ rfl
  rw [List.getElem?_eq_getElem (by rw [hx0]; decide)] at z0_1
  have ez0_1 : Try.prog.cellsOf 23 = 1 := by kernel_rfl
  change DataW.trod enc Try.prog W 0 (fun _ => true) true n0 23 (List.take (Try.prog.cellsOf 23) (List.drop 1 [.slice A0_0 l0_0.length c0_0_, c0_1, c0_2])) = some _ at z0_1
  rw [ez0_1] at z0_1
  change DataW.trod enc Try.prog W 0 (fun _ => true) true n0 23 [c0_1] = some _ at z0_1
  obtain ⟨l0_1, ⟨A0_1, c0_1_, hA0_1, hc0_1, hr0_1⟩, gl0_1⟩ := (opens_slice (e' := 56) Try.underlying23 opens56 (by kernel_rfl)) _ _ _ _ _ _ _ _ _ z0_1
  obtain rfl : c0_1 = .slice A0_1 l0_1.length c0_1_ := by simpa using hA0_1
  have z0_2 := hf0 2 _ rfl
  rw [List.getElem?_eq_getElem (by rw [hx0]; decide)] at z0_2
  have ez0_2 : Try.prog.cellsOf 24 = 1 := by kernel_rfl
  change DataW.trod enc Try.prog W 0 (fun _ => true) true n0 24 (List.take (Try.prog.cellsOf 24) (List.drop 2 [.slice A0_0 l0_0.length c0_0_, .slice A0_1 l0_1.length c0_1_, c0_2])) = some _ at z0_2
  rw [ez0_2] at z0_2
  change DataW.trod enc Try.prog W 0 (fun _ => true) true n0 24 [c0_2] = some _ at z0_2
  obtain ⟨l0_2, ⟨A0_2, c0_2_, hA0_2, hc0_2, hr0_2⟩, gl0_2⟩ := (opens_slice (e' := 61) Try.underlying24 opens61 (by kernel_rfl)) _ _ _ _ _ _ _ _ _ z0_2
  obtain rfl : c0_2 = .slice A0_2 l0_2.length c0_2_ := by simpa using hA0_2
  clear hA0 hval0 hsz0
  obtain ⟨k, h⟩ := Pure.FnExactHouStates l0_0 l0_1 l0_2 gl0_0 gl0_1 gl0_2
  refine (laws_FnExactHouStates.calls k A0_0 c0_0_ l0_0 A0_1 c0_1_ l0_1 A0_2 c0_2_ l0_2 true W hr0_0 hc0_0 hr0_1 hc0_1 hr0_2 hc0_2 h).mono fun e W' ⟨he, bel0⟩ => ?_
  have bel : Below W.heap.size W W' := bel0
  subst he
  exact ⟨_, rfl, _, _, _, [], _, [], hW', trodAll_mk1 (shut_bool Try.underlying4 _), (trodAll_cons_mk (Below.trod laidOut (by kernel_rfl) (of_decide_eq_true (by kernel_rfl)) k0 bel lt0) trodAll_mk0), rfl, bel.frame _, fun h => by cases h⟩
theorem over : Rows.fnExactHouStatesRow.holds Try.pinned (OpenSpec.ofChange Rows.fnExactHouStatesSpec) :=
  OpenClaim.holds_of_wide 3 Try.f3 rfl rfl rfl rfl rfl rfl rfl ⟨rfl, rfl, rfl, rfl, rfl⟩ rfl rfl rfl rfl rfl (by kernel_rfl) Try.func3 (by kernel_rfl)
    (of_decide_eq_true (by kernel_rfl)) (by unfold Func.isWrapper; first | (rw [if_pos (by decide +kernel)]; kernel_rfl) | (rw [if_neg (by decide +kernel)]; exact ⟨rfl, rfl⟩))
    (fun os started H enc _ => lifted os started H enc)
theorem proved : Rows.FnExactHouStatesSaid := over
#print axioms proved
end Go.Proofs.Ytcifhhgoippmbaa.fnExactHouStates
namespace Go.Proofs.Ytcifhhgoippmbaa
/-- The row, under a short name, for the claim. -/
theorem fnExactHouStates_holds : Rows.FnExactHouStatesSaid := fnExactHouStates.proved
end Go.Proofs.Ytcifhhgoippmbaa
