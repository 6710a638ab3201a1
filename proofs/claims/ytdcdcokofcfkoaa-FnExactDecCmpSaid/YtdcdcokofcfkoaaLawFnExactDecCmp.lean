-- Written by the session's own program wip/allprint.py, which drives the kit's print; Lean checks it.
import Derived.Test.YtdcdcokofcfkoaaRows
import Derived.Test.YtdcdcokofcfkoaaAllx17
import Derived.Test.YtdcdcokofcfkoaaOpen
import Derived.Test.YtdcdcokofcfkoaaPureFnExactDecCmp
import Derived.WalkKit
import Derived.ProofKit
import Derived.OpenShut
import Derived.ShutString
import Derived.ChangeOld
import Derived.Below
import Derived.SizedLaws
import Derived.Carry
namespace Go.Proofs.Ytdcdcokofcfkoaa.fnExactDecCmp
open Go.ChangeShapes Go.WideShapes Go.ChangeAt Go.RowKit Go.Proofs.YtdcdcokofcfkoaaW.PrintWords Go.Proofs.Ytdcdcokofcfkoaa.All
open Go.ChangeMaps (open_string shut_string)
set_option linter.unusedVariables false
theorem own : ownKnob Try.prog.godebug = none := by kernel_rfl
theorem laidOut : laidOutB Try.prog = true := by kernel_rfl
set_option maxRecDepth 100000 in
set_option maxHeartbeats 1000000 in
theorem lifted (os : Os) (started : os.Started) (H : Type) (enc : TypeId × Value → H) :
    ReturnsInHanded {} Try.checked os 5 .any (Rows.fnExactDecCmpSpec.pre6 enc Try.prog Try.f5 Rows.fnExactDecCmpRow.domain false) (Rows.fnExactDecCmpSpec.post enc Try.prog Try.f5 false true false false) := by
  refine returnsInHanded_of_change_sized (C := Try.checked) own started (by kernel_rfl) Try.func5
    (ChangeSpec.witness6 (enc := enc) (C := Try.checked) false ⟨#[], #[.agg #[.int .i64 0, .int .i64 0], .agg #[.int .i64 0, .int .i64 0]], []⟩ 8 (by kernel_rfl) (by kernel_rfl) (by kernel_rfl) (by kernel_rfl)) ?_
  intro W base args ds gs before hval0 hW hcnd hsz0 _
  have hval : ∀ (j : Nat) t v, Try.f5.params[j]? = some t → args[j]? = some v → Value.okWide Try.prog W .any base t v := hval0
  have hW' := hW
  obtain ⟨p, q, hA0, hV, rfl, hfz, hnd⟩ := hW
  have hA : DataW.TrodAll enc Try.prog W 0 (fun _ => true) true Try.f5.params.toList args.toList ds p := hA0
  rw [Try.params5] at hA hval
  obtain ⟨v0, vs0, d0, ds0, p0, q0, hargs, rfl, rfl, h0, r0⟩ := trodAll_cons hA
  obtain ⟨v1, vs1, d1, ds1, p1, q1, rfl, rfl, rfl, h1, r1⟩ := trodAll_cons r0
  obtain ⟨rfl, rfl, rfl⟩ := trodAll_nil r1
  obtain rfl : args = #[v0, v1] := by cases args; simp_all
  obtain ⟨rfl, rfl⟩ := trodVars_none hV
  have k0 := h0
  have lt0 : ∀ x ∈ p0, x.block < W.heap.size := by obtain ⟨m, hm⟩ := k0; exact DataW.trod_lt m _ _ _ hm
  obtain ⟨fuel0, hf_0⟩ := h0
  obtain ⟨cs0, rfl, hsz0⟩ := okWide_struct Try.underlying23 (hval 0 23 v0 rfl rfl)
  obtain ⟨c0_0, c0_1, hcs0⟩ := list2 (l := cs0.toList) ((by simpa using hsz0 : cs0.toList.length = _).trans (by kernel_rfl))
  obtain rfl : cs0 = #[c0_0, c0_1] := by rw [← Array.toArray_toList (xs := cs0), hcs0]
  have hg0 : DataW.trod enc Try.prog W 0 (fun _ => true) true fuel0 23 [c0_0, c0_1] = some (d0, p0) := hf_0
  obtain ⟨xs0, n0, _, _, hl0, hx0, hf0⟩ := DataW.trod_struct Try.underlying23 hg0
  have z0_0 := hf0 0 _ rfl
  rw [List.getElem?_eq_getElem (by rw [hx0]; decide)] at z0_0
  have ez0_0 : Try.prog.cellsOf 3 = 1 := by kernel_rfl
  change DataW.trod enc Try.prog W 0 (fun _ => true) true n0 3 (List.take (Try.prog.cellsOf 3) (List.drop 0 [c0_0, c0_1])) = some _ at z0_0
  rw [ez0_0] at z0_0
  change DataW.trod enc Try.prog W 0 (fun _ => true) true n0 3 [c0_0] = some _ at z0_0
  obtain ⟨a0_0, ha0_0, g0_0⟩ := (opens_int Try.underlying3) _ _ _ _ _ _ _ _ _ z0_0
  obtain rfl : c0_0 = .int .i64 a0_0 := by have z_ : [c0_0] = [.int .i64 a0_0] := ha0_0; simpa using z_
  have z0_1 := hf0 1 _ rfl
  rw [List.getElem?_eq_getElem (by rw [hx0]; decide)] at z0_1
  have ez0_1 : Try.prog.cellsOf 3 = 1 := by kernel_rfl
  change DataW.trod enc Try.prog W 0 (fun _ => true) true n0 3 (List.take (Try.prog.cellsOf 3) (List.drop 1 [.int .i64 a0_0, c0_1])) = some _ at z0_1
  rw [ez0_1] at z0_1
  change DataW.trod enc Try.prog W 0 (fun _ => true) true n0 3 [c0_1] = some _ at z0_1
  obtain ⟨a0_1, ha0_1, g0_1⟩ := (opens_int Try.underlying3) _ _ _ _ _ _ _ _ _ z0_1
  obtain rfl : c0_1 = .int .i64 a0_1 := by have z_ : [c0_1] = [.int .i64 a0_1] := ha0_1; simpa using z_
  have k1 := h1
  have lt1 : ∀ x ∈ p1, x.block < W.heap.size := by obtain ⟨m, hm⟩ := k1; exact DataW.trod_lt m _ _ _ hm
  obtain ⟨fuel1, hf_1⟩ := h1
  obtain ⟨cs1, rfl, hsz1⟩ := okWide_struct Try.underlying23 (hval 1 23 v1 rfl rfl)
  obtain ⟨c1_0, c1_1, hcs1⟩ := list2 (l := cs1.toList) ((by simpa using hsz1 : cs1.toList.length = _).trans (by kernel_rfl))
  obtain rfl : cs1 = #[c1_0, c1_1] := by rw [← Array.toArray_toList (xs := cs1), hcs1]
  have hg1 : DataW.trod enc Try.prog W 0 (fun _ => true) true fuel1 23 [c1_0, c1_1] = some (d1, p1) := hf_1
  obtain ⟨xs1, n1, _, _, hl1, hx1, hf1⟩ := DataW.trod_struct Try.underlying23 hg1
  have z1_0 := hf1 0 _ rfl
  rw [List.getElem?_eq_getElem (by rw [hx1]; decide)] at z1_0
  have ez1_0 : Try.prog.cellsOf 3 = 1 := by kernel_rfl
  change DataW.trod enc Try.prog W 0 (fun _ => true) true n1 3 (List.take (Try.prog.cellsOf 3) (List.drop 0 [c1_0, c1_1])) = some _ at z1_0
  rw [ez1_0] at z1_0
  change DataW.trod enc Try.prog W 0 (fun _ => true) true n1 3 [c1_0] = some _ at z1_0
  obtain ⟨a1_0, ha1_0, g1_0⟩ := (opens_int Try.underlying3) _ _ _ _ _ _ _ _ _ z1_0
  obtain rfl : c1_0 = .int .i64 a1_0 := by have z_ : [c1_0] = [.int .i64 a1_0] := ha1_0; simpa using z_
  have z1_1 := hf1 1 _ rfl
  rw [List.getElem?_eq_getElem (by rw [hx1]; decide)] at z1_1
  have ez1_1 : Try.prog.cellsOf 3 = 1 := by kernel_rfl
  change DataW.trod enc Try.prog W 0 (fun _ => true) true n1 3 (List.take (Try.prog.cellsOf 3) (List.drop 1 [.int .i64 a1_0, c1_1])) = some _ at z1_1
  rw [ez1_1] at z1_1
  change DataW.trod enc Try.prog W 0 (fun _ => true) true n1 3 [c1_1] = some _ at z1_1
  obtain ⟨a1_1, ha1_1, g1_1⟩ := (opens_int Try.underlying3) _ _ _ _ _ _ _ _ _ z1_1
  obtain rfl : c1_1 = .int .i64 a1_1 := by have z_ : [c1_1] = [.int .i64 a1_1] := ha1_1; simpa using z_
  clear hA0 hval0 hsz0
  obtain ⟨k, h⟩ := Pure.FnExactDecCmp a0_0 a0_1 a1_0 a1_1 g0_0 g0_1 g1_0 g1_1
  refine (laws_FnExactDecCmp.calls k a0_0 a0_1 a1_0 a1_1 true W  h).mono fun e W' ⟨he, bel0⟩ => ?_
  have bel : Below W.heap.size W W' := bel0
  subst he
  exact ⟨_, rfl, _, _, _, [], _, [], hW', trodAll_mk1 (shut_bool Try.underlying4 _), (trodAll_cons_mk (Below.trod laidOut (by kernel_rfl) (of_decide_eq_true (by kernel_rfl)) k0 bel lt0) (trodAll_cons_mk (Below.trod laidOut (by kernel_rfl) (of_decide_eq_true (by kernel_rfl)) k1 bel lt1) trodAll_mk0)), rfl, bel.frame _, fun h => by cases h⟩
theorem over : Rows.fnExactDecCmpRow.holds Try.pinned (OpenSpec.ofChange Rows.fnExactDecCmpSpec) :=
  OpenClaim.holds_of_wide 5 Try.f5 rfl rfl rfl rfl rfl rfl rfl ⟨rfl, rfl, rfl, rfl, rfl⟩ rfl rfl rfl rfl rfl (by kernel_rfl) Try.func5 (by kernel_rfl)
    (of_decide_eq_true (by kernel_rfl)) (by unfold Func.isWrapper; first | (rw [if_pos (by decide +kernel)]; kernel_rfl) | (rw [if_neg (by decide +kernel)]; exact ⟨rfl, rfl⟩))
    (fun os started H enc _ => lifted os started H enc)
theorem proved : Rows.FnExactDecCmpSaid := over
#print axioms proved
end Go.Proofs.Ytdcdcokofcfkoaa.fnExactDecCmp
namespace Go.Proofs.Ytdcdcokofcfkoaa
/-- The row, under a short name, for the claim. -/
theorem fnExactDecCmp_holds : Rows.FnExactDecCmpSaid := fnExactDecCmp.proved
end Go.Proofs.Ytdcdcokofcfkoaa
