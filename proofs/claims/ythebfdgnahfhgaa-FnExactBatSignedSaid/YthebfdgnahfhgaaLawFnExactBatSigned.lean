-- Written by the session's own program wip/allprint.py, which drives the kit's print; Lean checks it.
import Derived.Test.YthebfdgnahfhgaaRows
import Derived.Test.YthebfdgnahfhgaaAllx13
import Derived.Test.YthebfdgnahfhgaaOpen
import Derived.Test.YthebfdgnahfhgaaPureFnExactBatSigned
import Derived.WalkKit
import Derived.ProofKit
import Derived.OpenShut
import Derived.ShutString
import Derived.ChangeOld
import Derived.Below
import Derived.SizedLaws
import Derived.Carry
namespace Go.Proofs.Ythebfdgnahfhgaa.fnExactBatSigned
open Go.ChangeShapes Go.WideShapes Go.ChangeAt Go.RowKit Go.Proofs.YthebfdgnahfhgaaW.PrintWords Go.Proofs.Ythebfdgnahfhgaa.All
open Go.ChangeMaps (open_string shut_string)
set_option linter.unusedVariables false
theorem own : ownKnob Try.prog.godebug = none := by kernel_rfl
theorem laidOut : laidOutB Try.prog = true := by kernel_rfl
set_option maxRecDepth 100000 in
set_option maxHeartbeats 1000000 in
theorem lifted (os : Os) (started : os.Started) (H : Type) (enc : TypeId × Value → H) :
    ReturnsInHanded {} Try.checked os 8 .any (Rows.fnExactBatSignedSpec.pre6 enc Try.prog Try.f8 Rows.fnExactBatSignedRow.domain false) (Rows.fnExactBatSignedSpec.post enc Try.prog Try.f8 false true false false) := by
  refine returnsInHanded_of_change_sized (C := Try.checked) own started (by kernel_rfl) Try.func8
    (ChangeSpec.witness6 (enc := enc) (C := Try.checked) false ⟨#[], #[.agg #[.int .i64 0, .int .i64 0, .slice none 0 0, .int .i64 0, .slice none 0 0, .slice none 0 0], .int .i64 0, .int .i64 0], []⟩ 8 (by kernel_rfl) (by kernel_rfl) (by kernel_rfl) (by kernel_rfl)) ?_
  intro W base args ds gs before hval0 hW hcnd hsz0 _
  have hval : ∀ (j : Nat) t v, Try.f8.params[j]? = some t → args[j]? = some v → Value.okWide Try.prog W .any base t v := hval0
  have hW' := hW
  obtain ⟨p, q, hA0, hV, rfl, hfz, hnd⟩ := hW
  have hA : DataW.TrodAll enc Try.prog W 0 (fun _ => true) true Try.f8.params.toList args.toList ds p := hA0
  rw [Try.params8] at hA hval
  obtain ⟨v0, vs0, d0, ds0, p0, q0, hargs, rfl, rfl, h0, r0⟩ := trodAll_cons hA
  obtain ⟨v1, vs1, d1, ds1, p1, q1, rfl, rfl, rfl, h1, r1⟩ := trodAll_cons r0
  obtain ⟨v2, vs2, d2, ds2, p2, q2, rfl, rfl, rfl, h2, r2⟩ := trodAll_cons r1
  obtain ⟨rfl, rfl, rfl⟩ := trodAll_nil r2
  obtain rfl : args = #[v0, v1, v2] := by cases args; simp_all
  obtain ⟨rfl, rfl⟩ := trodVars_none hV
  have k0 := h0
  have lt0 : ∀ x ∈ p0, x.block < W.heap.size := by obtain ⟨m, hm⟩ := k0; exact DataW.trod_lt m _ _ _ hm
  obtain ⟨fuel0, hf_0⟩ := h0
  obtain ⟨cs0, rfl, hsz0⟩ := okWide_struct Try.underlying50 (hval 0 50 v0 rfl rfl)
  obtain ⟨c0_0, c0_1, c0_2, c0_3, c0_4, c0_5, hcs0⟩ := list6 (l := cs0.toList) ((by simpa using hsz0 : cs0.toList.length = _).trans (by kernel_rfl))
  obtain rfl : cs0 = #[c0_0, c0_1, c0_2, c0_3, c0_4, c0_5] := by rw [← Array.toArray_toList (xs := cs0), hcs0]
  have hg0 : DataW.trod enc Try.prog W 0 (fun _ => true) true fuel0 50 [c0_0, c0_1, c0_2, c0_3, c0_4, c0_5] = some (d0, p0) := hf_0
  obtain ⟨xs0, n0, _, _, hl0, hx0, hf0⟩ := DataW.trod_struct Try.underlying50 hg0
  have z0_0 := hf0 0 _ rfl
  rw [List.getElem?_eq_getElem (by rw [hx0]; decide)] at z0_0
  have ez0_0 : Try.prog.cellsOf 3 = 1 := by kernel_rfl
  change DataW.trod enc Try.prog W 0 (fun _ => true) true n0 3 (List.take (Try.prog.cellsOf 3) (List.drop 0 [c0_0, c0_1, c0_2, c0_3, c0_4, c0_5])) = some _ at z0_0
  rw [ez0_0] at z0_0
  change DataW.trod enc Try.prog W 0 (fun _ => true) true n0 3 [c0_0] = some _ at z0_0
  obtain ⟨a0_0, ha0_0, g0_0⟩ := (opens_int Try.underlying3) _ _ _ _ _ _ _ _ _ z0_0
  obtain rfl : c0_0 = .int .i64 a0_0 := by have z_ : [c0_0] = [.int .i64 a0_0] := ha0_0; simpa using z_
  have z0_1 := hf0 1 _ rfl
  rw [List.getElem?_eq_getElem (by rw [hx0]; decide)] at z0_1
  have ez0_1 : Try.prog.cellsOf 3 = 1 := by kernel_rfl
  change DataW.trod enc Try.prog W 0 (fun _ => true) true n0 3 (List.take (Try.prog.cellsOf 3) (List.drop 1 [.int .i64 a0_0, c0_1, c0_2, c0_3, c0_4, c0_5])) = some _ at z0_1
  rw [ez0_1] at z0_1
  change DataW.trod enc Try.prog W 0 (fun _ => true) true n0 3 [c0_1] = some _ at z0_1
  obtain ⟨a0_1, ha0_1, g0_1⟩ := (opens_int Try.underlying3) _ _ _ _ _ _ _ _ _ z0_1
  obtain rfl : c0_1 = .int .i64 a0_1 := by have z_ : [c0_1] = [.int .i64 a0_1] := ha0_1; simpa using z_
  have z0_2 := hf0 2 _ rfl
  rw [List.getElem?_eq_getElem (by rw [hx0]; decide)] at z0_2
  have ez0_2 : Try.prog.cellsOf 47 = 1 := by kernel_rfl
  change DataW.trod enc Try.prog W 0 (fun _ => true) true n0 47 (List.take (Try.prog.cellsOf 47) (List.drop 2 [.int .i64 a0_0, .int .i64 a0_1, c0_2, c0_3, c0_4, c0_5])) = some _ at z0_2
  rw [ez0_2] at z0_2
  change DataW.trod enc Try.prog W 0 (fun _ => true) true n0 47 [c0_2] = some _ at z0_2
  obtain ⟨l0_2, ⟨A0_2, c0_2_, hA0_2, hc0_2, hr0_2⟩, gl0_2⟩ := (opens_slice (e' := 153) Try.underlying47 opens153 (by kernel_rfl)) _ _ _ _ _ _ _ _ _ z0_2
  obtain rfl : c0_2 = .slice A0_2 l0_2.length c0_2_ := by simpa using hA0_2
  have z0_3 := hf0 3 _ rfl
  rw [List.getElem?_eq_getElem (by rw [hx0]; decide)] at z0_3
  have ez0_3 : Try.prog.cellsOf 3 = 1 := by kernel_rfl
  change DataW.trod enc Try.prog W 0 (fun _ => true) true n0 3 (List.take (Try.prog.cellsOf 3) (List.drop 3 [.int .i64 a0_0, .int .i64 a0_1, .slice A0_2 l0_2.length c0_2_, c0_3, c0_4, c0_5])) = some _ at z0_3
  rw [ez0_3] at z0_3
  change DataW.trod enc Try.prog W 0 (fun _ => true) true n0 3 [c0_3] = some _ at z0_3
  obtain ⟨a0_3, ha0_3, g0_3⟩ := (opens_int Try.underlying3) _ _ _ _ _ _ _ _ _ z0_3
  obtain rfl : c0_3 = .int .i64 a0_3 := by have z_ : [c0_3] = [.int .i64 a0_3] := ha0_3; simpa using z_
  have z0_4 := hf0 4 _ rfl
  rw [List.getElem?_eq_getElem (by rw [hx0]; decide)] at z0_4
  have ez0_4 : Try.prog.cellsOf 48 = 1 := by kernel_rfl
  change DataW.trod enc Try.prog W 0 (fun _ => true) true n0 48 (List.take (Try.prog.cellsOf 48) (List.drop 4 [.int .i64 a0_0, .int .i64 a0_1, .slice A0_2 l0_2.length c0_2_, .int .i64 a0_3, c0_4, c0_5])) = some _ at z0_4
  rw [ez0_4] at z0_4
  change DataW.trod enc Try.prog W 0 (fun _ => true) true n0 48 [c0_4] = some _ at z0_4
  obtain ⟨l0_4, ⟨A0_4, c0_4_, hA0_4, hc0_4, hr0_4⟩, gl0_4⟩ := (opens_slice (e' := 156) Try.underlying48 opens156 (by kernel_rfl)) _ _ _ _ _ _ _ _ _ z0_4
  obtain rfl : c0_4 = .slice A0_4 l0_4.length c0_4_ := by simpa using hA0_4
  have z0_5 := hf0 5 _ rfl
  rw [List.getElem?_eq_getElem (by rw [hx0]; decide)] at z0_5
  have ez0_5 : Try.prog.cellsOf 25 = 1 := by kernel_rfl
  change DataW.trod enc Try.prog W 0 (fun _ => true) true n0 25 (List.take (Try.prog.cellsOf 25) (List.drop 5 [.int .i64 a0_0, .int .i64 a0_1, .slice A0_2 l0_2.length c0_2_, .int .i64 a0_3, .slice A0_4 l0_4.length c0_4_, c0_5])) = some _ at z0_5
  rw [ez0_5] at z0_5
  change DataW.trod enc Try.prog W 0 (fun _ => true) true n0 25 [c0_5] = some _ at z0_5
  obtain ⟨l0_5, ⟨A0_5, c0_5_, hA0_5, hc0_5, hr0_5⟩, gl0_5⟩ := (opens_slice (e' := 4) Try.underlying25 (opens_bool Try.underlying4) (by kernel_rfl)) _ _ _ _ _ _ _ _ _ z0_5
  obtain rfl : c0_5 = .slice A0_5 l0_5.length c0_5_ := by simpa using hA0_5
  have k1 := h1
  have lt1 : ∀ x ∈ p1, x.block < W.heap.size := by obtain ⟨m, hm⟩ := k1; exact DataW.trod_lt m _ _ _ hm
  obtain ⟨fuel1, hf_1⟩ := h1
  obtain ⟨av1, hv1, _⟩ := open_int Try.underlying3 (hval 1 3 v1 rfl rfl) k1
  have hg1 : DataW.trod enc Try.prog W 0 (fun _ => true) true fuel1 3 [v1] = some (d1, p1) := by rw [hv1] at hf_1 ⊢; exact hf_1
  clear hv1
  obtain ⟨a1, ha1, g1⟩ := (opens_int Try.underlying3) _ _ _ _ _ _ _ _ _ hg1
  obtain rfl : v1 = .int .i64 a1 := by have z_ : [v1] = [.int .i64 a1] := ha1; simpa using z_
  have k2 := h2
  have lt2 : ∀ x ∈ p2, x.block < W.heap.size := by obtain ⟨m, hm⟩ := k2; exact DataW.trod_lt m _ _ _ hm
  obtain ⟨fuel2, hf_2⟩ := h2
  obtain ⟨av2, hv2, _⟩ := open_int Try.underlying3 (hval 2 3 v2 rfl rfl) k2
  have hg2 : DataW.trod enc Try.prog W 0 (fun _ => true) true fuel2 3 [v2] = some (d2, p2) := by rw [hv2] at hf_2 ⊢; exact hf_2
  clear hv2
  obtain ⟨a2, ha2, g2⟩ := (opens_int Try.underlying3) _ _ _ _ _ _ _ _ _ hg2
  obtain rfl : v2 = .int .i64 a2 := by have z_ : [v2] = [.int .i64 a2] := ha2; simpa using z_
  clear hA0 hval0 hsz0
  obtain ⟨k, h⟩ := Pure.FnExactBatSigned a0_0 a0_1 l0_2 a0_3 l0_4 l0_5 a1 a2 g0_0 g0_1 gl0_2 g0_3 gl0_4 gl0_5 g1 g2
  refine (laws_FnExactBatSigned.calls k a0_0 a0_1 A0_2 c0_2_ l0_2 a0_3 A0_4 c0_4_ l0_4 A0_5 c0_5_ l0_5 a1 a2 true W hr0_2 hc0_2 hr0_4 hc0_4 hr0_5 hc0_5 h).mono fun e W' ⟨he, bel0⟩ => ?_
  have bel : Below W.heap.size W W' := bel0
  subst he
  exact ⟨_, rfl, _, _, _, [], _, [], hW', trodAll_mk1 (shut_bool Try.underlying4 _), (trodAll_cons_mk (Below.trod laidOut (by kernel_rfl) (of_decide_eq_true (by kernel_rfl)) k0 bel lt0) (trodAll_cons_mk (Below.trod laidOut (by kernel_rfl) (of_decide_eq_true (by kernel_rfl)) k1 bel lt1) (trodAll_cons_mk (Below.trod laidOut (by kernel_rfl) (of_decide_eq_true (by kernel_rfl)) k2 bel lt2) trodAll_mk0))), rfl, bel.frame _, fun h => by cases h⟩
theorem over : Rows.fnExactBatSignedRow.holds Try.pinned (OpenSpec.ofChange Rows.fnExactBatSignedSpec) :=
  OpenClaim.holds_of_wide 8 Try.f8 rfl rfl rfl rfl rfl rfl rfl ⟨rfl, rfl, rfl, rfl, rfl⟩ rfl rfl rfl rfl rfl (by kernel_rfl) Try.func8 (by kernel_rfl)
    (of_decide_eq_true (by kernel_rfl)) (by unfold Func.isWrapper; first | (rw [if_pos (by decide +kernel)]; kernel_rfl) | (rw [if_neg (by decide +kernel)]; exact ⟨rfl, rfl⟩))
    (fun os started H enc _ => lifted os started H enc)
theorem proved : Rows.FnExactBatSignedSaid := over
#print axioms proved
end Go.Proofs.Ythebfdgnahfhgaa.fnExactBatSigned
namespace Go.Proofs.Ythebfdgnahfhgaa
/-- The row, under a short name, for the claim. -/
theorem fnExactBatSigned_holds : Rows.FnExactBatSignedSaid := fnExactBatSigned.proved
end Go.Proofs.Ythebfdgnahfhgaa
