-- Written by the session's own program wip/allprint.py, which drives the kit's print; Lean checks it.
import Derived.Test.YtojgpnobbnihdaaRows
import Derived.Test.YtojgpnobbnihdaaAllx26
import Derived.Test.YtojgpnobbnihdaaOpen
import Derived.Test.YtojgpnobbnihdaaPureFnExactStaNext
import Derived.WalkKit
import Derived.ProofKit
import Derived.OpenShut
import Derived.ShutString
import Derived.ChangeOld
import Derived.Below
import Derived.SizedLaws
import Derived.Carry
namespace Go.Proofs.Ytojgpnobbnihdaa.fnExactStaNext
open Go.ChangeShapes Go.WideShapes Go.ChangeAt Go.RowKit Go.Proofs.YtojgpnobbnihdaaW.PrintWords Go.Proofs.Ytojgpnobbnihdaa.All
open Go.ChangeMaps (open_string shut_string)
set_option linter.unusedVariables false
theorem own : ownKnob Try.prog.godebug = none := by kernel_rfl
theorem laidOut : laidOutB Try.prog = true := by kernel_rfl
set_option maxRecDepth 100000 in
set_option maxHeartbeats 1000000 in
theorem lifted (os : Os) (started : os.Started) (H : Type) (enc : TypeId × Value → H) :
    ReturnsInHanded {} Try.checked os 9 .any (Rows.fnExactStaNextSpec.pre6 enc Try.prog Try.f9 Rows.fnExactStaNextRow.domain false) (Rows.fnExactStaNextSpec.post enc Try.prog Try.f9 false true false false) := by
  refine returnsInHanded_of_change_sized (C := Try.checked) own started (by kernel_rfl) Try.func9
    (ChangeSpec.witness6 (enc := enc) (C := Try.checked) false ⟨#[], #[.agg #[.int .i64 0, .int .i64 0, .int .i64 0, .slice none 0 0, .int .i64 0], .int .i64 0, .slice none 0 0], []⟩ 8 (by kernel_rfl) (by kernel_rfl) (by kernel_rfl) (by kernel_rfl)) ?_
  intro W base args ds gs before hval0 hW hcnd hsz0 _
  have hval : ∀ (j : Nat) t v, Try.f9.params[j]? = some t → args[j]? = some v → Value.okWide Try.prog W .any base t v := hval0
  have hW' := hW
  obtain ⟨p, q, hA0, hV, rfl, hfz, hnd⟩ := hW
  have hA : DataW.TrodAll enc Try.prog W 0 (fun _ => true) true Try.f9.params.toList args.toList ds p := hA0
  rw [Try.params9] at hA hval
  obtain ⟨v0, vs0, d0, ds0, p0, q0, hargs, rfl, rfl, h0, r0⟩ := trodAll_cons hA
  obtain ⟨v1, vs1, d1, ds1, p1, q1, rfl, rfl, rfl, h1, r1⟩ := trodAll_cons r0
  obtain ⟨v2, vs2, d2, ds2, p2, q2, rfl, rfl, rfl, h2, r2⟩ := trodAll_cons r1
  obtain ⟨rfl, rfl, rfl⟩ := trodAll_nil r2
  obtain rfl : args = #[v0, v1, v2] := by cases args; simp_all
  obtain ⟨rfl, rfl⟩ := trodVars_none hV
  have k0 := h0
  have lt0 : ∀ x ∈ p0, x.block < W.heap.size := by obtain ⟨m, hm⟩ := k0; exact DataW.trod_lt m _ _ _ hm
  obtain ⟨fuel0, hf_0⟩ := h0
  obtain ⟨cs0, rfl, hsz0⟩ := okWide_struct Try.underlying26 (hval 0 26 v0 rfl rfl)
  obtain ⟨c0_0, c0_1, c0_2, c0_3, c0_4, hcs0⟩ := list5 (l := cs0.toList) ((by simpa using hsz0 : cs0.toList.length = _).trans (by kernel_rfl))
  obtain rfl : cs0 = #[c0_0, c0_1, c0_2, c0_3, c0_4] := by rw [← Array.toArray_toList (xs := cs0), hcs0]
  have hg0 : DataW.trod enc Try.prog W 0 (fun _ => true) true fuel0 26 [c0_0, c0_1, c0_2, c0_3, c0_4] = some (d0, p0) := hf_0
  obtain ⟨xs0, n0, _, _, hl0, hx0, hf0⟩ := DataW.trod_struct Try.underlying26 hg0
  have z0_0 := hf0 0 _ rfl
  rw [List.getElem?_eq_getElem (by rw [hx0]; decide)] at z0_0
  have ez0_0 : Try.prog.cellsOf 23 = 3 := by kernel_rfl
  change DataW.trod enc Try.prog W 0 (fun _ => true) true n0 23 (List.take (Try.prog.cellsOf 23) (List.drop 0 [c0_0, c0_1, c0_2, c0_3, c0_4])) = some _ at z0_0
  rw [ez0_0] at z0_0
  change DataW.trod enc Try.prog W 0 (fun _ => true) true n0 23 [c0_0, c0_1, c0_2] = some _ at z0_0
  obtain ⟨xs1, n1, _, _, hl1, hx1, hf1⟩ := DataW.trod_struct Try.underlying23 z0_0
  have z1_0 := hf1 0 _ rfl
  rw [List.getElem?_eq_getElem (by rw [hx1]; decide)] at z1_0
  have ez1_0 : Try.prog.cellsOf 3 = 1 := by kernel_rfl
  change DataW.trod enc Try.prog W 0 (fun _ => true) true n1 3 (List.take (Try.prog.cellsOf 3) (List.drop 0 [c0_0, c0_1, c0_2])) = some _ at z1_0
  rw [ez1_0] at z1_0
  change DataW.trod enc Try.prog W 0 (fun _ => true) true n1 3 [c0_0] = some _ at z1_0
  obtain ⟨a0_0, ha0_0, g0_0⟩ := (opens_int Try.underlying3) _ _ _ _ _ _ _ _ _ z1_0
  obtain rfl : c0_0 = .int .i64 a0_0 := by have z_ : [c0_0] = [.int .i64 a0_0] := ha0_0; simpa using z_
  have z1_1 := hf1 1 _ rfl
  rw [List.getElem?_eq_getElem (by rw [hx1]; decide)] at z1_1
  have ez1_1 : Try.prog.cellsOf 3 = 1 := by kernel_rfl
  change DataW.trod enc Try.prog W 0 (fun _ => true) true n1 3 (List.take (Try.prog.cellsOf 3) (List.drop 1 [.int .i64 a0_0, c0_1, c0_2])) = some _ at z1_1
  rw [ez1_1] at z1_1
  change DataW.trod enc Try.prog W 0 (fun _ => true) true n1 3 [c0_1] = some _ at z1_1
  obtain ⟨a0_1, ha0_1, g0_1⟩ := (opens_int Try.underlying3) _ _ _ _ _ _ _ _ _ z1_1
  obtain rfl : c0_1 = .int .i64 a0_1 := by have z_ : [c0_1] = [.int .i64 a0_1] := ha0_1; simpa using z_
  have z1_2 := hf1 2 _ rfl
  rw [List.getElem?_eq_getElem (by rw [hx1]; decide)] at z1_2
  have ez1_2 : Try.prog.cellsOf 3 = 1 := by kernel_rfl
  change DataW.trod enc Try.prog W 0 (fun _ => true) true n1 3 (List.take (Try.prog.cellsOf 3) (List.drop 2 [.int .i64 a0_0, .int .i64 a0_1, c0_2])) = some _ at z1_2
  rw [ez1_2] at z1_2
  change DataW.trod enc Try.prog W 0 (fun _ => true) true n1 3 [c0_2] = some _ at z1_2
  obtain ⟨a0_2, ha0_2, g0_2⟩ := (opens_int Try.underlying3) _ _ _ _ _ _ _ _ _ z1_2
  obtain rfl : c0_2 = .int .i64 a0_2 := by have z_ : [c0_2] = [.int .i64 a0_2] := ha0_2; simpa using z_
  have z0_1 := hf0 1 _ rfl
  rw [List.getElem?_eq_getElem (by rw [hx0]; decide)] at z0_1
  have ez0_1 : Try.prog.cellsOf 24 = 1 := by kernel_rfl
  change DataW.trod enc Try.prog W 0 (fun _ => true) true n0 24 (List.take (Try.prog.cellsOf 24) (List.drop 3 [.int .i64 a0_0, .int .i64 a0_1, .int .i64 a0_2, c0_3, c0_4])) = some _ at z0_1
  rw [ez0_1] at z0_1
  change DataW.trod enc Try.prog W 0 (fun _ => true) true n0 24 [c0_3] = some _ at z0_1
  obtain ⟨l0_3, ⟨A0_3, c0_3_, hA0_3, hc0_3, hr0_3⟩, gl0_3⟩ := (opens_slice (e' := 3) Try.underlying24 (opens_int Try.underlying3) (by kernel_rfl)) _ _ _ _ _ _ _ _ _ z0_1
  obtain rfl : c0_3 = .slice A0_3 l0_3.length c0_3_ := by simpa using hA0_3
  have z0_2 := hf0 2 _ rfl
  rw [List.getElem?_eq_getElem (by rw [hx0]; decide)] at z0_2
  have ez0_2 : Try.prog.cellsOf 3 = 1 := by kernel_rfl
  change DataW.trod enc Try.prog W 0 (fun _ => true) true n0 3 (List.take (Try.prog.cellsOf 3) (List.drop 4 [.int .i64 a0_0, .int .i64 a0_1, .int .i64 a0_2, .slice A0_3 l0_3.length c0_3_, c0_4])) = some _ at z0_2
  rw [ez0_2] at z0_2
  change DataW.trod enc Try.prog W 0 (fun _ => true) true n0 3 [c0_4] = some _ at z0_2
  obtain ⟨a0_4, ha0_4, g0_4⟩ := (opens_int Try.underlying3) _ _ _ _ _ _ _ _ _ z0_2
  obtain rfl : c0_4 = .int .i64 a0_4 := by have z_ : [c0_4] = [.int .i64 a0_4] := ha0_4; simpa using z_
  have k1 := h1
  have lt1 : ∀ x ∈ p1, x.block < W.heap.size := by obtain ⟨m, hm⟩ := k1; exact DataW.trod_lt m _ _ _ hm
  obtain ⟨fuel1, hf_1⟩ := h1
  obtain ⟨av1, hv1, _⟩ := open_int Try.underlying3 (hval 1 3 v1 rfl rfl) k1
  have hg1 : DataW.trod enc Try.prog W 0 (fun _ => true) true fuel1 3 [v1] = some (d1, p1) := by rw [hv1] at hf_1 ⊢; exact hf_1
  clear hv1
  obtain ⟨a1, ha1, g1⟩ := (opens_int Try.underlying3) _ _ _ _ _ _ _ _ _ hg1
  obtain rfl : v1 = .int .i64 a1 := by have z_ : [v1] = [.int .i64 a1] := ha1; simpa using z_
  have k2 := h2
  have lt2 : ∀ x ∈ p2, x.block < W.heap.size := by obtain ⟨m, hm⟩ := k2; exact DataW.trod_lt m _ _ _ hm
  obtain ⟨fuel2, hf_2⟩ := h2
  obtain ⟨av2, lenv2, capv2, hv2⟩ := okWide_slice Try.underlying24 (hval 2 24 v2 rfl rfl)
  have hg2 : DataW.trod enc Try.prog W 0 (fun _ => true) true fuel2 24 [v2] = some (d2, p2) := by rw [hv2] at hf_2 ⊢; exact hf_2
  clear hv2
  obtain ⟨l2, ⟨A2, c2_, hA2, hc2, hr2⟩, gl2⟩ := (opens_slice (e' := 3) Try.underlying24 (opens_int Try.underlying3) (by kernel_rfl)) _ _ _ _ _ _ _ _ _ hg2
  obtain rfl : v2 = .slice A2 l2.length c2_ := by simpa using hA2
  clear hA0 hval0 hsz0
  obtain ⟨k, h⟩ := Pure.FnExactStaNext a0_0 a0_1 a0_2 l0_3 a0_4 a1 l2 g0_0 g0_1 g0_2 gl0_3 g0_4 g1 gl2
  refine (laws_FnExactStaNext.calls k a0_0 a0_1 a0_2 A0_3 c0_3_ l0_3 a0_4 a1 A2 c2_ l2 true W hr0_3 hc0_3 hr2 hc2 h).mono fun e W' ⟨he, bel0⟩ => ?_
  have bel : Below W.heap.size W W' := bel0
  subst he
  exact ⟨_, rfl, _, _, _, [], _, [], hW', trodAll_mk1 (shut_bool Try.underlying4 _), (trodAll_cons_mk (Below.trod laidOut (by kernel_rfl) (of_decide_eq_true (by kernel_rfl)) k0 bel lt0) (trodAll_cons_mk (Below.trod laidOut (by kernel_rfl) (of_decide_eq_true (by kernel_rfl)) k1 bel lt1) (trodAll_cons_mk (Below.trod laidOut (by kernel_rfl) (of_decide_eq_true (by kernel_rfl)) k2 bel lt2) trodAll_mk0))), rfl, bel.frame _, fun h => by cases h⟩
theorem over : Rows.fnExactStaNextRow.holds Try.pinned (OpenSpec.ofChange Rows.fnExactStaNextSpec) :=
  OpenClaim.holds_of_wide 9 Try.f9 rfl rfl rfl rfl rfl rfl rfl ⟨rfl, rfl, rfl, rfl, rfl⟩ rfl rfl rfl rfl rfl (by kernel_rfl) Try.func9 (by kernel_rfl)
    (of_decide_eq_true (by kernel_rfl)) (by unfold Func.isWrapper; first | (rw [if_pos (by decide +kernel)]; kernel_rfl) | (rw [if_neg (by decide +kernel)]; exact ⟨rfl, rfl⟩))
    (fun os started H enc _ => lifted os started H enc)
theorem proved : Rows.FnExactStaNextSaid := over
#print axioms proved
end Go.Proofs.Ytojgpnobbnihdaa.fnExactStaNext
namespace Go.Proofs.Ytojgpnobbnihdaa
/-- The row, under a short name, for the claim. -/
theorem fnExactStaNext_holds : Rows.FnExactStaNextSaid := fnExactStaNext.proved
end Go.Proofs.Ytojgpnobbnihdaa
