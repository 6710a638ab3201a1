-- Written by the session's own program wip/allprint.py, which drives the kit's print; Lean checks it.
import Derived.Test.YthebfdgnahfhgaaRows
import Derived.Test.YthebfdgnahfhgaaAllx4
import Derived.Test.YthebfdgnahfhgaaOpen
import Derived.Test.YthebfdgnahfhgaaPureFnExactAudWho
import Derived.WalkKit
import Derived.ProofKit
import Derived.OpenShut
import Derived.ShutString
import Derived.ChangeOld
import Derived.Below
import Derived.SizedLaws
import Derived.Carry
namespace Go.Proofs.Ythebfdgnahfhgaa.fnExactAudWho
open Go.ChangeShapes Go.WideShapes Go.ChangeAt Go.RowKit Go.Proofs.YthebfdgnahfhgaaW.PrintWords Go.Proofs.Ythebfdgnahfhgaa.All
open Go.ChangeMaps (open_string shut_string)
set_option linter.unusedVariables false
theorem own : ownKnob Try.prog.godebug = none := by kernel_rfl
theorem laidOut : laidOutB Try.prog = true := by kernel_rfl
set_option maxRecDepth 100000 in
set_option maxHeartbeats 1000000 in
theorem lifted (os : Os) (started : os.Started) (H : Type) (enc : TypeId × Value → H) :
    ReturnsInHanded {} Try.checked os 6 .any (Rows.fnExactAudWhoSpec.pre6 enc Try.prog Try.f6 Rows.fnExactAudWhoRow.domain false) (Rows.fnExactAudWhoSpec.post enc Try.prog Try.f6 false true false false) := by
  refine returnsInHanded_of_change_sized (C := Try.checked) own started (by kernel_rfl) Try.func6
    (ChangeSpec.witness6 (enc := enc) (C := Try.checked) false ⟨#[], #[.slice none 0 0, .int .i64 0], []⟩ 8 (by kernel_rfl) (by kernel_rfl) (by kernel_rfl) (by kernel_rfl)) ?_
  intro W base args ds gs before hval0 hW hcnd hsz0 _
  have hval : ∀ (j : Nat) t v, Try.f6.params[j]? = some t → args[j]? = some v → Value.okWide Try.prog W .any base t v := hval0
  have hW' := hW
  obtain ⟨p, q, hA0, hV, rfl, hfz, hnd⟩ := hW
  have hA : DataW.TrodAll enc Try.prog W 0 (fun _ => true) true Try.f6.params.toList args.toList ds p := hA0
  rw [Try.params6] at hA hval
  obtain ⟨v0, vs0, d0, ds0, p0, q0, hargs, rfl, rfl, h0, r0⟩ := trodAll_cons hA
  obtain ⟨v1, vs1, d1, ds1, p1, q1, rfl, rfl, rfl, h1, r1⟩ := trodAll_cons r0
  obtain ⟨rfl, rfl, rfl⟩ := trodAll_nil r1
  obtain rfl : args = #[v0, v1] := by cases args; simp_all
  obtain ⟨rfl, rfl⟩ := trodVars_none hV
  have k0 := h0
  have lt0 : ∀ x ∈ p0, x.block < W.heap.size := by obtain ⟨m, hm⟩ := k0; exact DataW.trod_lt m _ _ _ hm
  obtain ⟨fuel0, hf_0⟩ := h0
  obtain ⟨av0, lenv0, capv0, hv0⟩ := okWide_slice Try.underlying42 (hval 0 42 v0 rfl rfl)
  have hg0 : DataW.trod enc Try.prog W 0 (fun _ => true) true fuel0 42 [v0] = some (d0, p0) := by rw [hv0] at hf_0 ⊢; exact hf_0
  clear hv0
  obtain ⟨l0, ⟨A0, c0_, hA0, hc0, hr0⟩, gl0⟩ := (opens_slice (e' := 110) Try.underlying42 opens110 (by kernel_rfl)) _ _ _ _ _ _ _ _ _ hg0
  obtain rfl : v0 = .slice A0 l0.length c0_ := by simpa using hA0
  have k1 := h1
  have lt1 : ∀ x ∈ p1, x.block < W.heap.size := by obtain ⟨m, hm⟩ := k1; exact DataW.trod_lt m _ _ _ hm
  obtain ⟨fuel1, hf_1⟩ := h1
  obtain ⟨av1, hv1, _⟩ := open_int Try.underlying3 (hval 1 3 v1 rfl rfl) k1
  have hg1 : DataW.trod enc Try.prog W 0 (fun _ => true) true fuel1 3 [v1] = some (d1, p1) := by rw [hv1] at hf_1 ⊢; exact hf_1
  clear hv1
  obtain ⟨a1, ha1, g1⟩ := (opens_int Try.underlying3) _ _ _ _ _ _ _ _ _ hg1
  obtain rfl : v1 = .int .i64 a1 := by have z_ : [v1] = [.int .i64 a1] := ha1; simpa using z_
  clear hA0 hval0 hsz0
  obtain ⟨k, h⟩ := Pure.FnExactAudWho l0 a1 gl0 g1
  refine (laws_FnExactAudWho.calls k A0 c0_ l0 a1 true W hr0 hc0 h).mono fun e W' ⟨he, bel0⟩ => ?_
  have bel : Below W.heap.size W W' := bel0
  subst he
  exact ⟨_, rfl, _, _, _, [], _, [], hW', trodAll_mk1 (shut_bool Try.underlying4 _), (trodAll_cons_mk (Below.trod laidOut (by kernel_rfl) (of_decide_eq_true (by kernel_rfl)) k0 bel lt0) (trodAll_cons_mk (Below.trod laidOut (by kernel_rfl) (of_decide_eq_true (by kernel_rfl)) k1 bel lt1) trodAll_mk0)), rfl, bel.frame _, fun h => by cases h⟩
theorem over : Rows.fnExactAudWhoRow.holds Try.pinned (OpenSpec.ofChange Rows.fnExactAudWhoSpec) :=
  OpenClaim.holds_of_wide 6 Try.f6 rfl rfl rfl rfl rfl rfl rfl ⟨rfl, rfl, rfl, rfl, rfl⟩ rfl rfl rfl rfl rfl (by kernel_rfl) Try.func6 (by kernel_rfl)
    (of_decide_eq_true (by kernel_rfl)) (by unfold Func.isWrapper; first | (rw [if_pos (by decide +kernel)]; kernel_rfl) | (rw [if_neg (by decide +kernel)]; exact ⟨rfl, rfl⟩))
    (fun os started H enc _ => lifted os started H enc)
theorem proved : Rows.FnExactAudWhoSaid := over
#print axioms proved
end Go.Proofs.Ythebfdgnahfhgaa.fnExactAudWho
namespace Go.Proofs.Ythebfdgnahfhgaa
/-- The row, under a short name, for the claim. -/
theorem fnExactAudWho_holds : Rows.FnExactAudWhoSaid := fnExactAudWho.proved
end Go.Proofs.Ythebfdgnahfhgaa
