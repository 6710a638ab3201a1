/- The typed machine is sound: what it shows of a body holds of the model's function, calls among them, in any order that a region allows; no conditions. -/
import Derived.Test.YtipfdcmjcelbiaaSA
section
/-! ## S8: Each step of the typed machine is one of the model's, calls among them; no conditions. -/
set_option linter.unusedVariables false
set_option linter.unusedSimpArgs false
namespace Go.Proofs.Ytipfdcmjcelbiaa.Safe
open Go Go.RowKit

/-- A function that may be called, and keeps its contract. -/
def Sound (B : Base) (f : Nat) (sp : Spec) : Prop :=
  (∀ (args : Array Value) (w : World), (callFunc f args).run Try.prog w = .ok (.enter f args) w) ∧
  ∀ (l : List AV) (N : Nat) (S : Nat → Prop) (w : World) (vs : Array Value), sp.pre l N → 16 ≤ N → B.P S N w → F2 (V2 S N w) l vs.toList → WT S N w B →
    Calls Try.prog f vs w (fun e w' => ∃ v r N' S', e = .returned v ∧ sp.post l N r N' ∧ N ≤ N' ∧ V2 S' N' w' r v ∧ WT S' N' w' B ∧ Out S w S' w')
/-- What is known of cells holds of each world of the run. -/
def MOk (B : Base) (m : Addr → Nat → Option (List AV)) : Prop := ∀ S N w, B.P S N w → ∀ ad n l, m ad n = some l → ∃ cs : List Value, F2 (SV S N w) l cs ∧ cs.length = n ∧ ∀ j v, cs[j]? = some v → w.cell? (ad.add j) = some v
structure COk (B : Base) (Γ : Ctx) : Prop where
  f : ∀ f sp, Γ.f f = some sp → Sound B f sp
  m : MOk B Γ.m
section
variable {B : Base} {nt : Nat} {w0 : World} {S0 : Nat → Prop} {s : AS} {S : Nat → Prop} {L : Nat → Nat} {a : Act} {w : World} {o : Oper} {K : AS → Prop} {Q : Exit → Act → World → Prop}
theorem annXs_ok (hR : Rel B nt w0 S0 s S L a w) : ∀ {xs : List Operand} {ys : List X}, annXs xs = some ys → F2 (V3 s.M L S s.N w) (ys.map (ev s.T)) (xs.map a.eval)
  | [], ys, h => by
    simp only [annXs, Option.some.injEq] at h
    subst h
    trivial
  | x :: xs, ys, h => by
    simp only [annXs] at h
    split at h
    · rename_i y l h1 h2
      injection h with h
      subst h
      exact ⟨annX_ok h1 hR, annXs_ok hR h2⟩
    · cases h
theorem pasl_ok {M : Nat → Nat × List AV} {L : Nat → Nat} {N : Nat} {S : Nat → Prop} {w : World} : ∀ {l : List AV} {vs : List Value}, pasl l = true → F2 (V3 M L S N w) l vs → F2 (V2 S N w) l vs
  | [], [], _, _ => trivial
  | x :: l, v :: vs, h, hf => by
    simp only [pasl, Bool.and_eq_true] at h
    exact ⟨(pas_of h.1).1 hf.1, pasl_ok h.2 hf.2⟩
  | [], _ :: _, _, hf => hf.elim
  | _ :: _, [], _, hf => hf.elim
theorem op_call (hR : Rel B nt w0 S0 s S L a w) (hd : ∀ k, o.dst = some k → k < nt) {f : Nat} {xs : Array Operand} {c : Call} (hop : o.op = .call c) (hcc : c.callee = .value (.func f)) (hca : c.args = xs) {ys : List X} (hy : annXs xs.toList = some ys) {sp : Spec} (hs : Sound B f sp) (hpre : sp.pre (ys.map (ev s.T)) s.N) (hpas : pasl (ys.map (ev s.T)) = true) (hK : ∀ r N', sp.post (ys.map (ev s.T)) s.N r N' → s.N ≤ N' → K ⟨putA s.T o.dst r, s.M, N'⟩) : o.wp Try.prog a w (Goal B nt w0 S0 K) Q := by
  have hf := pasl_ok hpas (annXs_ok hR hy)
  have hc := hs.2 _ s.N S w (xs.map a.eval) hpre hR.big hR.P (by simpa using hf) hR.wt
  have hrun : (execOp a.eval o).run Try.prog w = .ok (.enter f (xs.map a.eval)) w := by
    have := hs.1 (xs.map a.eval) w
    obtain ⟨c1, c2, c3⟩ := c
    simp only at hcc hca
    subst hcc; subst hca
    simp [execOp, hop, resolve, Act.eval, Deferred.ofValue, invoke, this]
  unfold Oper.wp
  rw [hrun, Oper.upon_enter]
  refine Calls.mono hc ?_
  rintro e w' ⟨v, r, N', S', rfl, hp, hN, hv, hW, hO⟩
  exact ⟨_, S', L, hK r N' hp hN, (hR.to hO hW hN).put hd (V3_of_V2 hv)⟩
theorem op_ldl (hR : Rel B nt w0 S0 s S L a w) (hd : ∀ k, o.dst = some k → k < nt) {x : Operand} {t n : Nat} {ag : Bool} (hop : o.op = .load t x) (ht : tsz t = some (n, ag)) {ad : Addr} (hx : V3 s.M L S s.N w (.lit (.pointer (some ad))) (a.eval x)) {m : Addr → Nat → Option (List AV)} (hM : MOk B m) {l : List AV} (hm : m ad n = some l) (hK : K ⟨putA s.T o.dst (mk ag l), s.M, s.N⟩) : o.wp Try.prog a w (Goal B nt w0 S0 K) Q := by
  obtain ⟨hx', _⟩ := (show SV S s.N w (.lit (.pointer (some ad))) _ from hx)
  obtain ⟨cs, h1, h2, h3⟩ := hM S s.N w hR.P ad n l hm
  have e := run_loadVar (w := w) ht (ad := ad) h2 h3
  exact pure_fin hR hd (by simp [execOp, hop, hx', Instr.loadAt, Instr.sureAddr, e]) (mk_ok h1) hK
theorem bnd_ok (hR : Rel B nt w0 S0 s S L a w) {x : Option Operand} {y : Option X} (h : annO x = some y) {d k : Int} (hb : bnd s.T y d = some k) : (x = none ∧ k = d) ∨ ∃ z, x = some z ∧ a.eval z = .int .i64 k := by
  unfold annO at h
  split at h
  · injection h with h
    subst h
    simp only [bnd, Option.some.injEq] at hb
    exact .inl ⟨rfl, hb.symm⟩
  · rename_i z
    simp only [Option.map_eq_some_iff] at h
    obtain ⟨u, hu, rfl⟩ := h
    simp only [bnd] at hb
    split at hb
    · rename_i k' hk
      injection hb with hb
      subst hb
      have := annX_ok hu hR
      rw [hk] at this
      exact .inr ⟨z, rfl, this⟩
    · cases hb
theorem ldL_inv {m : Addr → Nat → Option (List AV)} {n : Nat} {ag : Bool} {v : Value} {d : Option Nat} {s : AS} {K : AS → Prop} (h : runD (ldL m n ag v) d s K) : ∃ ad l, v = .pointer (some ad) ∧ m ad n = some l ∧ K ⟨putA s.T d (mk ag l), s.M, s.N⟩ := by
  unfold ldL at h
  split at h
  · split at h
    · rename_i ad _ l hm
      exact ⟨ad, l, rfl, hm, h.2 _ rfl⟩
    · exact h.elim
  · exact h.elim
theorem faL_inv {k : Nat} {v : Value} {d : Option Nat} {s : AS} {K : AS → Prop} (h : runD (faL k v) d s K) : ∃ g o, v = .pointer (some ⟨g, o, none⟩) ∧ K ⟨putA s.T d (.lit (.pointer (some ⟨g, o + k, none⟩))), s.M, s.N⟩ := by
  unfold faL at h
  split at h
  · rename_i g o
    exact ⟨g, o, rfl, h.2 _ rfl⟩
  · exact h.elim
theorem iaL_inv {e : Nat} {k : Int} {v : Value} {d : Option Nat} {s : AS} {K : AS → Prop} (h : runD (iaL e k v) d s K) : ∃ g o n c, v = .slice (some ⟨g, o, none⟩) n c ∧ 0 ≤ k ∧ k < (n : Int) ∧ 0 < esz e ∧ K ⟨putA s.T d (.lit (.pointer (some ⟨g, o + k.toNat * esz e, none⟩))), s.M, s.N⟩ := by
  unfold iaL at h
  split at h
  · rename_i g o n c
    exact ⟨g, o, n, c, rfl, h.1.1, h.1.2.1, h.1.2.2, h.2 _ rfl⟩
  · exact h.elim
theorem lenL_inv {v : Value} {d : Option Nat} {s : AS} {K : AS → Prop} (h : runD (lenL v) d s K) : ∃ A n c, v = .slice A n c ∧ K ⟨putA s.T d (.int (n : Int)), s.M, s.N⟩ := by
  unfold lenL at h
  split at h
  · rename_i A n c
    exact ⟨A, n, c, rfl, h.2 _ rfl⟩
  · exact h.elim
theorem step_ok {Γ : Ctx} (hΓ : COk B Γ) (hR : Rel B nt w0 S0 s S L a w) (hd : ∀ k, o.dst = some k → k < nt) {fl : Bool} {al : List Nat} {ao : AOp} (h : annOp fl al o.type o.op = some ao) (hK : runD (den Γ (o.dst.getD 0) s ao) o.dst s K) : o.wp Try.prog a w (Goal B nt w0 S0 K) Q := by
  generalize hop : o.op = op at h
  unfold annOp at h
  split at h
  case h_1 x =>
    simp only [Option.map_eq_some_iff] at h
    obtain ⟨y, hy, rfl⟩ := h
    exact op_mv hR hd (.inl hop) (annX_ok hy hR) (hK.2 _ rfl)
  case h_2 x =>
    simp only [Option.map_eq_some_iff] at h
    obtain ⟨y, hy, rfl⟩ := h
    exact op_mv hR hd (.inr hop) (annX_ok hy hR) (hK.2 _ rfl)
  case h_3 c x y =>
    split at h
    · rename_i c' x' y' h1 h2 h3
      injection h with h
      subst h
      simp only [den] at hK
      split at hK
      · rename_i t ht
        exact op_pick hR hd hop (by rw [← ht]; exact annX_ok h1 hR) (annX_ok h2 hR) (annX_ok h3 hR) (hK.2 _ rfl)
      · exact hK.elim
    · cases h
  case h_4 e =>
    simp only [Option.map_eq_some_iff] at h
    obtain ⟨z, hz, rfl⟩ := h
    exact op_new hR hd (d := o.dst.getD 0) hop hz (hK.2 _ rfl)
  case h_5 e x =>
    simp only [Option.map_eq_some_iff] at h
    obtain ⟨y, hy, rfl⟩ := h
    simp only [den] at hK
    split at hK
    · rename_i l hl
      exact op_box hR hd (d := o.dst.getD 0) hop (annX_ok hy hR) hl (hK.2 _ rfl)
    · exact hK.elim
  case h_6 t ps =>
    split at h
    · rename_i z l hz hl
      split at h
      · cases h
      · rename_i hne
        injection h with h
        subst h
        simp only [den] at hK
        split at hK
        · rename_i z' hz'
          exact op_build hR hd hop hz hl (by simpa using hne) hz' (hK.2 _ rfl)
        · exact hK.elim
    · cases h
  case h_7 t n ps =>
    split at h
    · rename_i e l he hl
      split at h
      · rename_i hn
        injection h with h
        subst h
        simp only [den, runD] at hK
        exact op_bsl hR hd hop he hl hn.1 hn.2 hK.1.1 (hK.2 _ rfl)
      · cases h
    · cases h
  case h_8 t x =>
    split at h
    · rename_i n ag y ht hy
      injection h with h
      subst h
      have hx := annX_ok hy hR
      simp only [den] at hK
      generalize ev s.T y = u at hK hx
      cases u <;> simp only [ldD] at hK <;> first
        | exact hK.elim
        | exact op_ldp hR hd hop ht hx hK.1.1 hK.1.2.1 (hK.2 _ rfl)
        | exact op_ldr hR hd hop ht hx hK.1.1 (fun l hl => hK.2 _ ⟨l, hl, rfl⟩)
        | (obtain ⟨ad, l, rfl, hm, hK2⟩ := ldL_inv hK; exact op_ldl hR hd hop ht hx hΓ.m hm hK2)
        | (obtain ⟨⟨hv, ⟨hl, h0⟩, ⟨hn, hag⟩, _, hall⟩, hK⟩ := hK; subst hn; subst hag; exact op_ldt hR hd hop ht hx hv hl h0 (fun r hr => by obtain ⟨x, rfl, hx2⟩ := inI_of hall r hr; exact hK _ ⟨x, hx2, rfl⟩))
    · cases h
  case h_9 t x v =>
    split at h
    · rename_i n ag y u ht hy hv
      injection h with h
      subst h
      have hx := annX_ok hy hR
      have hv' := annX_ok hv hR
      simp only [den] at hK
      generalize ev s.T y = x' at hK hx
      cases hc : cellsA (ev s.T u) with
      | none => rw [hc] at hK; cases x' <;> exact hK.elim
      | some l =>
        rw [hc] at hK
        cases x' <;> simp only [stD, runD] at hK <;> first
          | exact hK.elim
          | exact op_stp hR hd hop ht hx hv' hc hK.1.1 hK.1.2.1 hK.1.2.2.1 hK.1.2.2.2 (hK.2 _ rfl)
          | exact op_str hR hd hop ht hx hv' hc hK.1.1 hK.1.2.1 hK.1.2.2.1 hK.1.2.2.2 (hK.2 _ rfl)
    · cases h
  case h_10 t x k =>
    split at h
    · rename_i off n y hk hy
      injection h with h
      subst h
      have hx := annX_ok hy hR
      simp only [den] at hK
      split at hK
      · rename_i b v p hu
        rw [hu] at hx
        exact op_fa hR hd hop hk hx (hK.2 _ rfl)
      · rename_i e p hu
        rw [hu] at hx
        exact op_far hR hd hop hk hx hK.1 (hK.2 _ rfl)
      · rename_i u hu
        rw [hu] at hx
        obtain ⟨g, p, rfl, hK2⟩ := faL_inv hK
        exact op_fal hR hd hop hk hx hK2
      · exact hK.elim
    · cases h
  case h_11 t x i =>
    split at h
    · rename_i e y j ht hy hj
      injection h with h
      subst h
      have hx := annX_ok hy hR
      have hi := annX_ok hj hR
      simp only [den] at hK
      split at hK
      · rename_i e' n k hu hk
        rw [hu] at hx
        rw [hk] at hi
        obtain ⟨rfl, h0, h1⟩ := hK.1
        exact op_ia hR hd hop ht hx hi h0 h1 (hK.2 _ rfl)
      · rename_i b v n k hu hk
        rw [hu] at hx
        rw [hk] at hi
        obtain ⟨rfl, h0, h1⟩ := hK.1
        exact op_iat hR hd hop ht hx hi h0 h1 (hK.2 _ rfl)
      · rename_i u k hu hk
        rw [hu] at hx
        rw [hk] at hi
        obtain ⟨g, p, n, c, rfl, h0, h1, h2, hK2⟩ := iaL_inv hK
        exact op_ial hR hd hop ht hx hi h0 h1 h2 hK2
      · exact hK.elim
    · cases h
  case h_12 op' t x y yt =>
    split at h
    · rename_i x' y' h1 h2
      injection h with h
      subst h
      have hx := annX_ok h1 hR
      have hy := annX_ok h2 hR
      simp only [den] at hK
      generalize ev s.T x' = u at hK hx
      generalize ev s.T y' = v at hK hy
      unfold binD at hK
      split at hK
      · exact op_binI hR hd hop hx hy hK
      · exact op_binS hR hd hop hx hy hK
      · exact op_binA hR hd hop hx hy hK
      · split at hK
        · rename_i ht
          subst ht
          exact op_binB hR hd hop hx hy hK
        · exact hK.elim
      · exact hK.elim
    · cases h
  case h_13 op' t x =>
    simp only [Option.map_eq_some_iff] at h
    obtain ⟨y, hy, rfl⟩ := h
    exact op_un hR hd hop (annX_ok hy hR) hK
  case h_14 u d x =>
    split at h
    · rename_i hud
      obtain ⟨rfl, rfl⟩ := hud
      simp only [Option.map_eq_some_iff] at h
      obtain ⟨y, hy, rfl⟩ := h
      have hx := annX_ok hy hR
      simp only [den] at hK
      split at hK
      · rename_i b hb
        rw [hb] at hx
        exact op_cvt hR hd hop hx (hK.2 _ rfl)
      · exact hK.elim
    · cases h
  case h_15 x k =>
    simp only [Option.map_eq_some_iff] at h
    obtain ⟨y, hy, rfl⟩ := h
    have hx := annX_ok hy hR
    simp only [den] at hK
    split at hK
    · rename_i l hl
      rw [hl] at hx
      split at hK
      · rename_i v hv
        exact op_ext hR hd hop hx hv (hK.2 _ rfl)
      · exact hK.elim
    · exact hK.elim
  case h_16 t x k =>
    split at h
    · rename_i ht
      subst ht
      split at h
      · rename_i off n y hk hy
        split at h
        · rename_i hn
          subst hn
          injection h with h
          subst h
          have hx := annX_ok hy hR
          simp only [den] at hK
          split at hK
          · rename_i l hl
            rw [hl] at hx
            exact op_fld hR hd hop hk hx hK.1.1 (hK.2 _ rfl)
          · exact hK.elim
        · cases h
      · cases h
    · cases h
  case h_17 t x lo hi mx =>
    split at h
    · cases h
    · rename_i hmx
      obtain rfl : mx = none := by simpa using hmx
      split at h
      · rename_i e y l' h' he hy hlo hhi
        injection h with h
        subst h
        have hx := annX_ok hy hR
        simp only [den] at hK
        split at hK
        · rename_i e' n hu
          rw [hu] at hx
          split at hK
          · rename_i l hh hl hh'
            simp only [slcD, runD] at hK
            obtain ⟨⟨rfl, q0, q1, q2⟩, hK⟩ := hK
            exact op_slc hR hd hop he hx (bnd_ok hR hlo hl) (bnd_ok hR hhi hh') q0 q1 q2 (hK _ rfl)
          · exact hK.elim
        · exact hK.elim
      · cases h
  case h_18 c =>
    unfold annCall at h
    split at h
    · rename_i f hcc
      split at h
      · rename_i g
        simp only [Option.map_eq_some_iff] at h
        obtain ⟨ys, hys, rfl⟩ := h
        simp only [den] at hK
        split at hK
        · rename_i sp hsp
          exact op_call hR hd hop hcc rfl hys (hΓ.f g sp hsp) hK.1.1 hK.1.2 hK.2
        · exact hK.elim
      · cases h
    · rename_i b hcc
      split at h
      · rename_i x t hca hct
        split at h
        · rename_i ht
          simp only [Option.map_eq_some_iff] at h
          obtain ⟨y, hy, rfl⟩ := h
          have hx := annX_ok hy hR
          simp only [den] at hK
          generalize ev s.T y = u at hK hx
          cases u <;> simp only [runD] at hK <;> first
            | exact hK.elim
            | exact op_len (e := 0) hR hd hop hcc hca hct (.inr ht) hx (.inr ⟨rfl, ht⟩) (hK.2 _ rfl)
        · rename_i ht
          split at h
          · rename_i hsl
            simp only [Option.map_eq_some_iff] at h
            obtain ⟨y, hy, rfl⟩ := h
            have hx := annX_ok hy hR
            simp only [den] at hK
            generalize ev s.T y = u at hK hx
            cases u <;> simp only [runD] at hK <;> first
              | exact hK.elim
              | exact op_len hR hd hop hcc hca hct (.inl hsl) hx (.inl ⟨rfl, ht⟩) (hK.2 _ rfl)
              | (obtain ⟨A, n, c, rfl, hK2⟩ := lenL_inv hK; exact op_lenl hR hd hop hcc hca hct hsl hx hK2)
          · cases h
      · rename_i x y t t' hca hct
        split at h
        · rename_i htt
          subst htt
          split at h
          · rename_i e x' y' he h1 h2
            injection h with h
            subst h
            have hx := annX_ok h1 hR
            have hy := annX_ok h2 hR
            simp only [den] at hK
            split at hK
            · rename_i e1 n e2 m hu hv
              rw [hu] at hx
              rw [hv] at hy
              simp only [runD] at hK
              obtain ⟨⟨rfl, rfl, hl⟩, hK⟩ := hK
              have hop2 : o.op = .call { callee := .builtin .append, args := #[x, y], argTypes := #[t, t] } := by
                rw [hop]
                obtain ⟨c1, c2, c3⟩ := c
                simp only at hcc hca hct
                subst hcc
                have e1 : c2 = #[x, y] := by rw [← Array.toArray_toList (xs := c2), hca]
                have e2 : c3 = #[t, t] := by rw [← Array.toArray_toList (xs := c3), hct]
                rw [e1, e2]
              exact op_app hR hd hop2 he hx hy hl (hK _ _ ⟨rfl, rfl⟩ (Nat.le_max_left _ _))
            · exact hK.elim
          · cases h
        · cases h
      · cases h
    · cases h
  case h_19 t x i =>
    split at h
    · rename_i ht
      subst ht
      split at h
      · rename_i x' i' h1 h2
        injection h with h
        subst h
        have hx := annX_ok h1 hR
        have hi := annX_ok h2 hR
        simp only [den] at hK
        split at hK
        · rename_i n k hu hk
          rw [hu] at hx
          rw [hk] at hi
          exact op_idx hR hd hop hx hi hK.1.1 hK.1.2 (fun b h0 h1 => hK.2 _ ⟨b, h0, h1, rfl⟩)
        · exact hK.elim
      · cases h
    · cases h
  case h_20 => cases h
end
end Go.Proofs.Ytipfdcmjcelbiaa.Safe
end

section
/-! ## S9: Operations of a region may be done in any order that its edges allow: the typed machine comes to the same; no conditions. -/
set_option linter.unusedVariables false
set_option linter.unusedSimpArgs false
namespace Go.Proofs.Ytipfdcmjcelbiaa.Safe
open Go Go.RowKit

/-! ### what an operation looks at -/
def rdX : X → List Nat
  | .t n => [n]
  | .c _ => []
def rdO : Option X → List Nat
  | none => []
  | some x => rdX x
def rdXs : List X → List Nat
  | [] => []
  | x :: r => rdX x ++ rdXs r
def rdPs : List (Nat × Nat × X) → List Nat
  | [] => []
  | (_, _, x) :: r => rdX x ++ rdPs r
def rdOp : AOp → List Nat
  | .mv x => rdX x
  | .pick c a b => rdX c ++ rdX a ++ rdX b
  | .new _ => []
  | .box x => rdX x
  | .build _ ps => rdPs ps
  | .bsl _ ps => rdXs ps
  | .ld _ _ _ _ x => rdX x
  | .st _ x v => rdX x ++ rdX v
  | .fa _ x => rdX x
  | .ia _ x i => rdX x ++ rdX i
  | .bin _ _ x y => rdX x ++ rdX y
  | .un _ x => rdX x
  | .cvt x => rdX x
  | .ext _ x => rdX x
  | .fld _ _ _ x => rdX x
  | .slc _ x lo hi => rdX x ++ rdO lo ++ rdO hi
  | .len _ x => rdX x
  | .app _ x y => rdX x ++ rdX y
  | .call _ ps => rdXs ps
  | .idx x i => rdX x ++ rdX i
  | .tab ps => rdXs ps
def rds (o : AOper) : List Nat := (match o.g with | some (g, _) => [g] | none => []) ++ rdOp o.o
def isEv : AOp → Bool
  | .app .. => true
  | .call .. => true
  | _ => false
def isSt : AOp → Bool
  | .st .. => true
  | _ => false
def isAl : AOp → Bool
  | .new _ => true
  | .box _ => true
  | .tab _ => true
  | _ => false
def flOk : AOp → Bool
  | .ld _ _ fl _ _ => !fl
  | _ => true
def alOk (d : Nat) : AOp → Bool
  | .ld _ _ _ al _ => al.contains d
  | _ => true
/-- Has nothing to do with memory. -/
def noM : AOp → Bool
  | .mv _ => true
  | .ext _ _ => true
  | _ => false
def indep (x y : AOper) : Bool :=
  (match x.d with | some d => !(rds y).contains d && y.d != some d | none => true) && (match y.d with | some d => !(rds x).contains d | none => true) &&
  !(isEv x.o && isEv y.o) && (!isSt x.o || noM y.o) && (!isSt y.o || noM x.o) && (!isEv x.o || flOk y.o) && (!isEv y.o || flOk x.o) &&
  (!isAl x.o || (x.d.isSome && alOk (x.d.getD 0) y.o)) && (!isAl y.o || (y.d.isSome && alOk (y.d.getD 0) x.o))

/-! ### a step, with its guard, as one demand -/
def gden (Γ : Ctx) (o : AOper) (s : AS) : Den :=
  match o.g with
  | none => den Γ (o.d.getD 0) s o.o
  | some (g, want) =>
    match s.T g with
    | .bool b => if b = want then den Γ (o.d.getD 0) s o.o else .ne True (fun r => r = .undef) none
    | .undef => .ne True (fun r => r = .undef) none
    | _ => .bad
theorem upd_self {α : Type} (T : Nat → α) (i : Nat) {v : α} (h : T i = v) : upd T i v = T := by
  funext j
  unfold upd
  split
  · rename_i e; rw [e, h]
  · rfl
theorem astep_iff (Γ : Ctx) (o : AOper) (s : AS) (K : AS → Prop) : astep Γ o s K ↔ runD (gden Γ o s) o.d s K := by
  unfold astep gden
  cases o.g with
  | none => rfl
  | some p =>
    obtain ⟨g, want⟩ := p
    dsimp only
    cases hg : s.T g with
    | bool b =>
      dsimp only
      by_cases e : b = want
      · subst e
        rw [upd_self s.T g hg]
        simp only [if_true, true_imp_iff]
        exact ⟨fun h => h.1, fun h => ⟨h, fun h2 => by cases b <;> simp at h2⟩⟩
      · have e2 : b = !want := by cases b <;> cases want <;> simp_all
        rw [if_neg e]
        subst e2
        rw [upd_self s.T g hg]
        simp only [runD, memA]
        exact ⟨fun h => ⟨trivial, fun r hr => by rw [hr]; exact h.2 trivial⟩, fun h => ⟨fun h2 => absurd h2 e, fun _ => h.2 _ rfl⟩⟩
    | undef =>
      dsimp only
      simp only [runD, memA]
      exact ⟨fun h => ⟨trivial, fun r hr => by rw [hr]; exact h⟩, fun h => h.2 _ rfl⟩
    | _ => exact Iff.rfl
theorem runD_mono {D : Den} {d : Option Nat} {s : AS} {K K' : AS → Prop} (hk : ∀ s', K s' → K' s') (h : runD D d s K) : runD D d s K' := by
  cases D with
  | bad => exact h
  | ne sf r m => exact ⟨h.1, fun x hx => hk _ (h.2 x hx)⟩
  | ev sf r => exact ⟨h.1, fun x n hx hn => hk _ (h.2 x n hx hn)⟩
theorem astep_mono {Γ : Ctx} {o : AOper} {s : AS} {K K' : AS → Prop} (hk : ∀ s', K s' → K' s') (h : astep Γ o s K) : astep Γ o s K' :=
  (astep_iff Γ o s K').2 (runD_mono hk ((astep_iff Γ o s K).1 h))
theorem aops_mono {Γ : Ctx} : ∀ {l : List AOper} {s : AS} {K K' : AS → Prop}, (∀ s', K s' → K' s') → aops Γ l s K → aops Γ l s K'
  | [], _, _, _, hk, h => hk _ h
  | _ :: _, _, _, _, hk, h => astep_mono (fun _ h2 => aops_mono hk h2) h
/-- The same demand, but for what hangs on nothing. -/
def DenR : Den → Den → Prop
  | .bad, .bad => True
  | .ne s r m, .ne s' r' m' => (s ↔ s') ∧ (s → ∀ v, r v ↔ r' v) ∧ m = m'
  | .ev s r, .ev s' r' => (s ↔ s') ∧ (s → ∀ v n, r v n ↔ r' v n)
  | _, _ => False
theorem DenR.rfl_ (D : Den) : DenR D D := by
  cases D with
  | bad => exact trivial
  | ne s r m => exact ⟨Iff.rfl, fun _ _ => Iff.rfl, rfl⟩
  | ev s r => exact ⟨Iff.rfl, fun _ _ _ => Iff.rfl⟩
section
variable {Γ : Ctx}
theorem ev_eq {T T' : Nat → AV} {x : X} (h : ∀ t ∈ rdX x, T' t = T t) : ev T' x = ev T x := by
  cases x with
  | t n => exact h n (by simp [rdX])
  | c v => rfl
theorem bnd_eq {T T' : Nat → AV} {x : Option X} {d : Int} (h : ∀ t ∈ rdO x, T' t = T t) : bnd T' x d = bnd T x d := by
  cases x with
  | none => rfl
  | some x => simp only [bnd]; rw [ev_eq (x := x) h]
theorem evs_eq {T T' : Nat → AV} : ∀ {l : List X}, (∀ t ∈ rdXs l, T' t = T t) → l.map (ev T') = l.map (ev T)
  | [], _ => rfl
  | x :: l, h => by
    simp only [List.map_cons]
    rw [ev_eq (x := x) (fun t ht => h t (by simp [rdXs, ht])), evs_eq (l := l) (fun t ht => h t (by simp [rdXs, ht]))]
theorem allC_eq {T T' : Nat → AV} {e : Nat} : ∀ {l : List X}, (∀ t ∈ rdXs l, T' t = T t) → allC T' e l = allC T e l
  | [], _ => rfl
  | x :: l, h => by
    simp only [allC]
    rw [ev_eq (x := x) (fun t ht => h t (by simp [rdXs, ht])), allC_eq (l := l) (fun t ht => h t (by simp [rdXs, ht]))]
theorem tabL_eq {T T' : Nat → AV} : ∀ {l : List X}, (∀ t ∈ rdXs l, T' t = T t) → tabL T' l = tabL T l
  | [], _ => rfl
  | x :: l, h => by
    simp only [tabL]
    rw [ev_eq (x := x) (fun t ht => h t (by simp [rdXs, ht])), tabL_eq (l := l) (fun t ht => h t (by simp [rdXs, ht]))]
theorem fillA_eq {T T' : Nat → AV} : ∀ {l : List (Nat × Nat × X)} {z : List AV}, (∀ t ∈ rdPs l, T' t = T t) → fillA T' z l = fillA T z l
  | [], _, _ => rfl
  | (off, n, x) :: l, z, h => by
    simp only [fillA]
    rw [ev_eq (x := x) (fun t ht => h t (by simp [rdPs, ht]))]
    split
    · split
      · exact fillA_eq (fun t ht => h t (by simp [rdPs, ht]))
      · rfl
    · rfl
/-- It hangs on the variables that it looks at. -/
theorem den_T {d : Nat} {o : AOp} {T T' : Nat → AV} {M : Nat → Nat × List AV} {N : Nat} (h : ∀ t ∈ rdOp o, T' t = T t) : den Γ d ⟨T', M, N⟩ o = den Γ d ⟨T, M, N⟩ o := by
  cases o with
  | mv x => simp only [den]; rw [ev_eq (x := x) (fun t ht => h t ht)]
  | pick c a b =>
    simp only [den]
    rw [ev_eq (x := c) (fun t ht => h t (by simp [rdOp, ht])), ev_eq (x := a) (fun t ht => h t (by simp [rdOp, ht])), ev_eq (x := b) (fun t ht => h t (by simp [rdOp, ht]))]
  | new z => rfl
  | box x => simp only [den]; rw [ev_eq (x := x) (fun t ht => h t ht)]
  | build z ps => simp only [den]; rw [fillA_eq (l := ps) (fun t ht => h t ht)]
  | bsl e ps => simp only [den]; rw [allC_eq (l := ps) (fun t ht => h t ht)]
  | ld n ag fl al x => simp only [den]; rw [ev_eq (x := x) (fun t ht => h t ht)]; cases ev T x <;> rfl
  | st n x v => simp only [den]; rw [ev_eq (x := x) (fun t ht => h t (by simp [rdOp, ht])), ev_eq (x := v) (fun t ht => h t (by simp [rdOp, ht]))]; cases ev T x <;> cases cellsA (ev T v) <;> rfl
  | fa k x => simp only [den]; rw [ev_eq (x := x) (fun t ht => h t ht)]
  | ia e x i => simp only [den]; rw [ev_eq (x := x) (fun t ht => h t (by simp [rdOp, ht])), ev_eq (x := i) (fun t ht => h t (by simp [rdOp, ht]))]
  | bin op t x y => simp only [den]; rw [ev_eq (x := x) (fun t ht => h t (by simp [rdOp, ht])), ev_eq (x := y) (fun t ht => h t (by simp [rdOp, ht]))]
  | un op x => simp only [den]; rw [ev_eq (x := x) (fun t ht => h t ht)]
  | cvt x => simp only [den]; rw [ev_eq (x := x) (fun t ht => h t ht)]
  | ext k x => simp only [den]; rw [ev_eq (x := x) (fun t ht => h t ht)]
  | fld off n ag x => simp only [den]; rw [ev_eq (x := x) (fun t ht => h t ht)]
  | slc e x lo hi =>
    simp only [den]
    rw [ev_eq (x := x) (fun t ht => h t (by simp [rdOp, ht]))]
    cases ev T x with
    | sl e' n =>
      simp only
      rw [bnd_eq (x := lo) (fun t ht => h t (by simp [rdOp, ht])), bnd_eq (x := hi) (fun t ht => h t (by simp [rdOp, ht]))]
    | _ => rfl
  | len st x => simp only [den]; rw [ev_eq (x := x) (fun t ht => h t ht)]
  | app e x y => simp only [den]; rw [ev_eq (x := x) (fun t ht => h t (by simp [rdOp, ht])), ev_eq (x := y) (fun t ht => h t (by simp [rdOp, ht]))]
  | call f ps => simp only [den]; rw [evs_eq (l := ps) (fun t ht => h t ht)]
  | idx x i => simp only [den]; rw [ev_eq (x := x) (fun t ht => h t (by simp [rdOp, ht])), ev_eq (x := i) (fun t ht => h t (by simp [rdOp, ht]))]
  | tab ps => simp only [den]; rw [tabL_eq (l := ps) (fun t ht => h t ht)]
/-- It hangs on no block that another one makes. -/
theorem den_M {d d' : Nat} {o : AOp} {T : Nat → AV} {M : Nat → Nat × List AV} {N : Nat} {c : Nat × List AV} (hst : isSt o = false) (hal : alOk d' o = true) (hd : isAl o = true → d ≠ d') : DenR (den Γ d ⟨T, upd M d' c, N⟩ o) (den Γ d ⟨T, M, N⟩ o) := by
  cases o with
  | new z => simp only [den, upd, if_neg (hd rfl)]; exact DenR.rfl_ _
  | box x =>
    simp only [den, upd, if_neg (hd rfl)]
    exact DenR.rfl_ _
  | st n x v => cases hst
  | ld n ag fl al x =>
    simp only [den]
    cases hx : ev T x with
    | ptr b v p =>
      simp only [ldD]
      by_cases e : b = d'
      · subst e
        have hm : b ∈ al := by simpa [alOk] using hal
        exact ⟨⟨fun h => absurd hm h.2.2, fun h => absurd hm h.2.2⟩, fun h => absurd hm h.2.2, rfl⟩
      · simp only [upd, if_neg e]
        exact DenR.rfl_ _
    | optr b v p =>
      simp only [ldD]
      by_cases e : b = d'
      · subst e
        have hm : b ∈ al := by simpa [alOk] using hal
        exact ⟨⟨fun h => absurd hm h.2.2.2.1, fun h => absurd hm h.2.2.2.1⟩, fun h => absurd hm h.2.2.2.1, rfl⟩
      · simp only [upd, if_neg e]
        exact DenR.rfl_ _
    | _ => exact DenR.rfl_ _
  | tab ps =>
    simp only [den, upd, if_neg (hd rfl)]
    exact DenR.rfl_ _
  | _ => exact DenR.rfl_ _
theorem gen_nosl {N N' : Nat} : ∀ {ts : List CT} {l : List AV}, nosl ts = true → (gen N ts l ↔ gen N' ts l)
  | [], l, _ => Iff.rfl
  | t :: ts, l, h => by
    cases t with
    | sl e => cases h
    | int => exact ⟨fun ⟨x, l', e, g⟩ => ⟨x, l', e, (gen_nosl (ts := ts) h).1 g⟩, fun ⟨x, l', e, g⟩ => ⟨x, l', e, (gen_nosl (ts := ts) h).2 g⟩⟩
    | bint => exact ⟨fun ⟨x, l', b, e, g⟩ => ⟨x, l', b, e, (gen_nosl (ts := ts) h).1 g⟩, fun ⟨x, l', b, e, g⟩ => ⟨x, l', b, e, (gen_nosl (ts := ts) h).2 g⟩⟩
    | pint => exact ⟨fun ⟨x, l', b, e, g⟩ => ⟨x, l', b, e, (gen_nosl (ts := ts) h).1 g⟩, fun ⟨x, l', b, e, g⟩ => ⟨x, l', b, e, (gen_nosl (ts := ts) h).2 g⟩⟩
    | byte => exact ⟨fun ⟨x, l', e, g⟩ => ⟨x, l', e, (gen_nosl (ts := ts) h).1 g⟩, fun ⟨x, l', e, g⟩ => ⟨x, l', e, (gen_nosl (ts := ts) h).2 g⟩⟩
    | bool => exact ⟨fun ⟨x, l', e, g⟩ => ⟨x, l', e, (gen_nosl (ts := ts) h).1 g⟩, fun ⟨x, l', e, g⟩ => ⟨x, l', e, (gen_nosl (ts := ts) h).2 g⟩⟩
    | str => exact ⟨fun ⟨x, l', b, e, g⟩ => ⟨x, l', b, e, (gen_nosl (ts := ts) h).1 g⟩, fun ⟨x, l', b, e, g⟩ => ⟨x, l', b, e, (gen_nosl (ts := ts) h).2 g⟩⟩
/-- It hangs on no bound. -/
theorem den_N {d : Nat} {o : AOp} {T : Nat → AV} {M : Nat → Nat × List AV} {N N' : Nat} (hev : isEv o = false) (hfl : flOk o = true) : DenR (den Γ d ⟨T, M, N'⟩ o) (den Γ d ⟨T, M, N⟩ o) := by
  cases o with
  | app e x y => cases hev
  | call f ps => cases hev
  | ld n ag fl al x =>
    obtain rfl : fl = false := by simpa [flOk] using hfl
    simp only [den]
    cases hx : ev T x with
    | row e p =>
      simp only [ldD]
      refine ⟨Iff.rfl, fun hs v => ?_, rfl⟩
      have hn : nosl (((lay e).drop p).take n) = true := hs.2.resolve_left (by simp)
      exact ⟨fun ⟨l, g, e⟩ => ⟨l, (gen_nosl hn).1 g, e⟩, fun ⟨l, g, e⟩ => ⟨l, (gen_nosl hn).2 g, e⟩⟩
    | _ => exact DenR.rfl_ _
  | st n x v =>
    simp only [den]
    cases ev T x <;> cases cellsA (ev T v) <;> exact DenR.rfl_ _
  | _ => exact DenR.rfl_ _
end
end Go.Proofs.Ytipfdcmjcelbiaa.Safe
end

section
/-! ## S10: Operations of a region in any order that its edges allow: steps that look at nothing of each other may be swapped; no conditions. -/
set_option linter.unusedVariables false
set_option linter.unusedSimpArgs false
namespace Go.Proofs.Ytipfdcmjcelbiaa.Safe
open Go Go.RowKit

theorem DenR.trans {A D C : Den} (h : DenR A D) (k : DenR D C) : DenR A C := by
  cases A <;> cases D <;> cases C <;> first
    | exact (show False from h).elim
    | exact (show False from k).elim
    | exact trivial
    | exact ⟨h.1.trans k.1, fun hs v => (h.2.1 hs v).trans (k.2.1 (h.1.1 hs) v), h.2.2.trans k.2.2⟩
    | exact ⟨h.1.trans k.1, fun hs v n => (h.2 hs v n).trans (k.2 (h.1.1 hs) v n)⟩
section
variable {Γ : Ctx}
theorem gen_inh (N : Nat) : ∀ ts : List CT, ∃ l, gen N ts l
  | [] => ⟨[], rfl⟩
  | t :: ts => by
    obtain ⟨l, hl⟩ := gen_inh N ts
    cases t with
    | int => exact ⟨.int 0 :: l, 0, l, rfl, hl⟩
    | bint => exact ⟨.int 0 :: l, 0, l, by decide, rfl, hl⟩
    | pint => exact ⟨.int 0 :: l, 0, l, by decide, rfl, hl⟩
    | byte => exact ⟨.byte 0 :: l, 0, l, rfl, hl⟩
    | bool => exact ⟨.bool false :: l, false, l, rfl, hl⟩
    | str => exact ⟨.str 0 :: l, 0, l, by decide, rfl, hl⟩
    | sl e => exact ⟨.sl e 0 :: l, 0, l, Nat.zero_le _, rfl, hl⟩
def inh : Den → Nat → Prop
  | .bad, _ => True
  | .ne s r _, _ => s → ∃ v, r v
  | .ev s r, N => s → ∃ v n, r v n ∧ N ≤ n
def kind (o : AOper) : Den → Prop
  | .bad => True
  | .ne _ _ none => True
  | .ne _ _ (some (b, _)) => isSt o.o = true ∨ (isAl o.o = true ∧ b = o.d.getD 0)
  | .ev _ _ => isEv o.o = true
theorem binI_facts (op : BinOp) (a b : Int) (N : Nat) : inh (binI op a b) N ∧ ∀ o, kind o (binI op a b) := by
  cases op <;> exact ⟨by first | exact trivial | exact fun _ => ⟨_, rfl⟩, fun _ => trivial⟩
theorem binS_facts (op : BinOp) (a b : Nat) (N : Nat) : inh (binS op a b) N ∧ ∀ o, kind o (binS op a b) := by
  cases op <;> exact ⟨by first | exact trivial | exact fun _ => ⟨_, rfl⟩ | exact fun _ => ⟨.bool true, true, rfl⟩, fun _ => trivial⟩
theorem binA_facts (op : BinOp) (t : Nat) (a b : List AV) (N : Nat) : inh (binA op t a b) N ∧ ∀ o, kind o (binA op t a b) := by
  cases op <;> exact ⟨by first | exact trivial | exact fun _ => ⟨.bool true, true, rfl⟩, fun _ => trivial⟩
theorem binB_facts (op : BinOp) (a b : Bool) (N : Nat) : inh (binB op a b) N ∧ ∀ o, kind o (binB op a b) := by
  cases op <;> exact ⟨by first | exact trivial | exact fun _ => ⟨_, rfl⟩, fun _ => trivial⟩
theorem lit_facts (m : Addr → Nat → Option (List AV)) (n : Nat) (ag : Bool) (e : Nat) (k : Int) (v : Value) (N : Nat) (o : AOper) : (inh (ldL m n ag v) N ∧ kind o (ldL m n ag v)) ∧ (inh (faL e v) N ∧ kind o (faL e v)) ∧ (inh (iaL e k v) N ∧ kind o (iaL e k v)) ∧ (inh (lenL v) N ∧ kind o (lenL v)) := by
  refine ⟨?_, ?_, ?_, ?_⟩
  · unfold ldL
    split
    · split
      · exact ⟨fun _ => ⟨_, rfl⟩, trivial⟩
      · exact ⟨trivial, trivial⟩
    · exact ⟨trivial, trivial⟩
  · unfold faL
    split
    · exact ⟨fun _ => ⟨_, rfl⟩, trivial⟩
    · exact ⟨trivial, trivial⟩
  · unfold iaL
    split
    · exact ⟨fun _ => ⟨_, rfl⟩, trivial⟩
    · exact ⟨trivial, trivial⟩
  · unfold lenL
    split
    · exact ⟨fun _ => ⟨_, rfl⟩, trivial⟩
    · exact ⟨trivial, trivial⟩
theorem den_facts (d : Nat) (s : AS) (o : AOper) (hd : d = o.d.getD 0) : inh (den Γ d s o.o) s.N ∧ kind o (den Γ d s o.o) := by
  subst hd
  cases ho : o.o with
  | mv x => exact ⟨fun _ => ⟨_, rfl⟩, trivial⟩
  | pick c a b => simp only [den]; split <;> exact ⟨by first | exact trivial | exact fun _ => ⟨_, rfl⟩, trivial⟩
  | new z => exact ⟨fun _ => ⟨_, rfl⟩, .inr ⟨by rw [ho]; rfl, rfl⟩⟩
  | box x =>
    simp only [den]
    split
    · exact ⟨fun _ => ⟨_, rfl⟩, .inr ⟨by rw [ho]; rfl, rfl⟩⟩
    · exact ⟨trivial, trivial⟩
  | tab ps =>
    simp only [den]
    split
    · exact ⟨fun _ => ⟨_, rfl⟩, .inr ⟨by rw [ho]; rfl, rfl⟩⟩
    · exact ⟨trivial, trivial⟩
  | build z ps => simp only [den]; split <;> exact ⟨by first | exact trivial | exact fun _ => ⟨_, rfl⟩, trivial⟩
  | bsl e ps => exact ⟨fun _ => ⟨_, rfl⟩, trivial⟩
  | ld n ag fl al x =>
    simp only [den]
    cases ev s.T x with
    | ptr b v p => exact ⟨fun _ => ⟨_, rfl⟩, trivial⟩
    | optr b v p => exact ⟨fun h => by
      obtain ⟨x, e, hx⟩ := inI_of h.2.2.2.2 _ (List.getElem_mem (l := (s.M b).2) (n := 0) (by have := h.2.1; omega))
      exact ⟨_, x, hx, rfl⟩, trivial⟩
    | row e p =>
      obtain ⟨l, hl⟩ := gen_inh s.N (((lay e).drop p).take n)
      exact ⟨fun _ => ⟨_, l, hl, rfl⟩, trivial⟩
    | lit v => exact (lit_facts Γ.m n ag 0 0 v s.N o).1
    | _ => exact ⟨trivial, trivial⟩
  | st n x v =>
    simp only [den]
    cases ev s.T x <;> cases cellsA (ev s.T v) <;> first
      | exact ⟨trivial, trivial⟩
      | exact ⟨fun _ => ⟨_, rfl⟩, trivial⟩
      | exact ⟨fun _ => ⟨_, rfl⟩, .inl (by rw [ho]; rfl)⟩
  | fa k x => simp only [den]; split <;> first | exact (lit_facts Γ.m 0 true k 0 _ s.N o).2.1 | exact ⟨by first | exact trivial | exact fun _ => ⟨_, rfl⟩, trivial⟩
  | ia e x i => simp only [den]; split <;> first | exact (lit_facts Γ.m 0 true e _ _ s.N o).2.2.1 | exact ⟨by first | exact trivial | exact fun _ => ⟨_, rfl⟩, trivial⟩
  | bin op t x y =>
    simp only [den]
    unfold binD
    split
    · exact ⟨(binI_facts _ _ _ _).1, (binI_facts _ _ _ s.N).2 _⟩
    · exact ⟨(binS_facts _ _ _ _).1, (binS_facts _ _ _ s.N).2 _⟩
    · exact ⟨(binA_facts _ _ _ _ _).1, (binA_facts _ _ _ _ s.N).2 _⟩
    · split
      · exact ⟨(binB_facts _ _ _ _).1, (binB_facts _ _ _ s.N).2 _⟩
      · exact ⟨trivial, trivial⟩
    · exact ⟨trivial, trivial⟩
  | un op x => simp only [den]; unfold unD; split <;> exact ⟨by first | exact trivial | exact fun _ => ⟨_, rfl⟩, trivial⟩
  | cvt x => simp only [den]; split <;> exact ⟨by first | exact trivial | exact fun _ => ⟨_, rfl⟩, trivial⟩
  | ext k x =>
    simp only [den]
    split
    · split <;> exact ⟨by first | exact trivial | exact fun _ => ⟨_, rfl⟩, trivial⟩
    · exact ⟨trivial, trivial⟩
  | fld off n ag x => simp only [den]; split <;> exact ⟨by first | exact trivial | exact fun _ => ⟨_, rfl⟩, trivial⟩
  | slc e x lo hi =>
    simp only [den]
    split
    · split <;> exact ⟨by first | exact trivial | exact fun _ => ⟨_, rfl⟩, trivial⟩
    · exact ⟨trivial, trivial⟩
  | len st x => simp only [den]; split <;> first | exact (lit_facts Γ.m 0 true 0 0 _ s.N o).2.2.2 | exact ⟨by first | exact trivial | exact fun _ => ⟨_, rfl⟩, trivial⟩
  | app e x y =>
    simp only [den]
    split
    · exact ⟨fun _ => ⟨_, _, ⟨rfl, rfl⟩, Nat.le_max_left _ _⟩, by show isEv o.o = true; rw [ho]; rfl⟩
    · exact ⟨trivial, trivial⟩
  | call f ps =>
    simp only [den]
    split
    · rename_i sp _
      exact ⟨fun h => by obtain ⟨r, n, h1, h2⟩ := sp.ne _ _ h.1; exact ⟨r, n, h2, h1⟩, by show isEv o.o = true; rw [ho]; rfl⟩
    · exact ⟨trivial, trivial⟩
  | idx x i =>
    simp only [den]
    split
    · exact ⟨fun _ => ⟨_, 0, by decide, by decide, rfl⟩, trivial⟩
    · exact ⟨trivial, trivial⟩
theorem gden_facts (s : AS) (o : AOper) : inh (gden Γ o s) s.N ∧ kind o (gden Γ o s) := by
  have h := den_facts (Γ := Γ) (o.d.getD 0) s o rfl
  unfold gden
  split
  · exact h
  · split
    · split
      · exact h
      · exact ⟨fun _ => ⟨_, rfl⟩, trivial⟩
    · exact ⟨fun _ => ⟨_, rfl⟩, trivial⟩
    · exact ⟨trivial, trivial⟩
theorem gden_T {o : AOper} {T T' : Nat → AV} {M : Nat → Nat × List AV} {N : Nat} (h : ∀ t ∈ rds o, T' t = T t) : gden Γ o ⟨T', M, N⟩ = gden Γ o ⟨T, M, N⟩ := by
  have hd := den_T (Γ := Γ) (d := o.d.getD 0) (o := o.o) (M := M) (N := N) (fun t ht => h t (by simp [rds, ht]))
  unfold gden
  cases hg : o.g with
  | none => exact hd
  | some p =>
    obtain ⟨g, want⟩ := p
    dsimp only
    rw [h g (by simp [rds, hg]), hd]
theorem gden_M {d' : Nat} {o : AOper} {T : Nat → AV} {M : Nat → Nat × List AV} {N : Nat} {c : Nat × List AV} (hst : isSt o.o = false) (hal : alOk d' o.o = true) (hd : isAl o.o = true → o.d.getD 0 ≠ d') : DenR (gden Γ o ⟨T, upd M d' c, N⟩) (gden Γ o ⟨T, M, N⟩) := by
  have h := den_M (Γ := Γ) (d := o.d.getD 0) (o := o.o) (T := T) (M := M) (N := N) (c := c) hst hal hd
  unfold gden
  cases o.g with
  | none => exact h
  | some p =>
    obtain ⟨g, want⟩ := p
    dsimp only
    cases T g with
    | bool b =>
      dsimp only
      by_cases e : b = want
      · rw [if_pos e, if_pos e]; exact h
      · rw [if_neg e, if_neg e]; exact DenR.rfl_ _
    | _ => exact DenR.rfl_ _
theorem gden_N {o : AOper} {T : Nat → AV} {M : Nat → Nat × List AV} {N N' : Nat} (hev : isEv o.o = false) (hfl : flOk o.o = true) : DenR (gden Γ o ⟨T, M, N'⟩) (gden Γ o ⟨T, M, N⟩) := by
  have h := den_N (Γ := Γ) (d := o.d.getD 0) (o := o.o) (T := T) (M := M) (N := N) (N' := N') hev hfl
  unfold gden
  cases o.g with
  | none => exact h
  | some p =>
    obtain ⟨g, want⟩ := p
    dsimp only
    cases T g with
    | bool b =>
      dsimp only
      by_cases e : b = want
      · rw [if_pos e, if_pos e]; exact h
      · rw [if_neg e, if_neg e]; exact DenR.rfl_ _
    | _ => exact DenR.rfl_ _
/-- What indep says, in parts. -/
structure Ind (x y : AOper) : Prop where
  a : ∀ d, x.d = some d → d ∉ rds y
  b : ∀ d, y.d = some d → d ∉ rds x
  c : ∀ d, x.d = some d → y.d ≠ some d
  e : ¬ (isEv x.o = true ∧ isEv y.o = true)
  sx : isSt x.o = true → noM y.o = true
  sy : isSt y.o = true → noM x.o = true
  fy : isEv x.o = true → flOk y.o = true
  fx : isEv y.o = true → flOk x.o = true
  ax : isAl x.o = true → ∃ d, x.d = some d ∧ alOk d y.o = true
  ay : isAl y.o = true → ∃ d, y.d = some d ∧ alOk d x.o = true
theorem Ind.of {x y : AOper} (h : indep x y = true) : Ind x y := by
  simp only [indep, Bool.and_eq_true, Bool.or_eq_true, Bool.not_eq_true'] at h
  obtain ⟨⟨⟨⟨⟨⟨⟨⟨h1, h2⟩, h3⟩, h4⟩, h5⟩, h6⟩, h7⟩, h8⟩, h9⟩ := h
  refine ⟨?_, ?_, ?_, ?_, fun e => h4.resolve_left (by rw [e]; decide), fun e => h5.resolve_left (by rw [e]; decide), ?_, ?_, ?_, ?_⟩
  · intro d hd
    rw [hd] at h1
    simp at h1
    exact h1.1
  · intro d hd
    rw [hd] at h2
    simpa using h2
  · intro d hd
    rw [hd] at h1
    simp at h1
    exact h1.2
  · rintro ⟨p, q⟩
    rw [p, q] at h3
    cases h3
  · intro he
    rcases h6 with h6 | h6
    · rw [he] at h6; cases h6
    · exact h6
  · intro he
    rcases h7 with h7 | h7
    · rw [he] at h7; cases h7
    · exact h7
  · intro he
    rcases h8 with h8 | ⟨h8, h8'⟩
    · rw [he] at h8; cases h8
    · obtain ⟨d, hd⟩ := Option.isSome_iff_exists.1 h8
      rw [hd] at h8'
      exact ⟨d, hd, h8'⟩
  · intro he
    rcases h9 with h9 | ⟨h9, h9'⟩
    · rw [he] at h9; cases h9
    · obtain ⟨d, hd⟩ := Option.isSome_iff_exists.1 h9
      rw [hd] at h9'
      exact ⟨d, hd, h9'⟩
theorem noM_facts {o : AOp} (h : noM o = true) : isSt o = false ∧ isAl o = false ∧ isEv o = false := by
  cases o <;> first | (cases h; done) | exact ⟨rfl, rfl, rfl⟩
theorem gden_noM {Γ : Ctx} {o : AOper} (h : noM o.o = true) {T : Nat → AV} {M M' : Nat → Nat × List AV} {N : Nat} : gden Γ o ⟨T, M', N⟩ = gden Γ o ⟨T, M, N⟩ := by
  unfold gden
  generalize o.o = p at *
  cases p <;> first | (cases h; done) | rfl
theorem Ind.symm {x y : AOper} (h : Ind x y) : Ind y x :=
  ⟨h.b, h.a, fun d hd hx => h.c d hx hd, fun ⟨p, q⟩ => h.e ⟨q, p⟩, h.sy, h.sx, h.fx, h.fy, h.ay, h.ax⟩
/-- y's demand behind x is y's demand. -/
theorem after {x y : AOper} (h : Ind x y) {T : Nat → AV} {M : Nat → Nat × List AV} {N N' : Nat} {r : AV} {mx : Option (Nat × Nat × List AV)} (hm : ∀ b c, mx = some (b, c) → isSt x.o = true ∨ (isAl x.o = true ∧ b = x.d.getD 0)) (hn : N' = N ∨ isEv x.o = true) : DenR (gden Γ y ⟨putA T x.d r, memA M mx, N'⟩) (gden Γ y ⟨T, M, N⟩) := by
  have h1 : gden Γ y ⟨putA T x.d r, memA M mx, N'⟩ = gden Γ y ⟨T, memA M mx, N'⟩ := gden_T (fun t ht => by
    cases hd : x.d with
    | none => rfl
    | some d =>
      simp only [putA, upd]
      rw [if_neg (fun (e : t = d) => h.a d hd (e ▸ ht))])
  rw [h1]
  have h2 : DenR (gden Γ y ⟨T, memA M mx, N'⟩) (gden Γ y ⟨T, M, N'⟩) := by
    cases mx with
    | none => exact DenR.rfl_ _
    | some p =>
      obtain ⟨b, c⟩ := p
      rcases hm b c rfl with hs | ⟨ha, hb⟩
      · rw [gden_noM (h.sx hs)]
        exact DenR.rfl_ _
      · have hsy : isSt y.o = false := by
          cases hy : isSt y.o with
          | false => rfl
          | true => have := (noM_facts (h.sy hy)).2.1; rw [ha] at this; cases this
        obtain ⟨d, hd, hal⟩ := h.ax ha
        rw [hd] at hb
        simp only [Option.getD_some] at hb
        subst hb
        refine gden_M hsy hal (fun hy => ?_)
        obtain ⟨d', hd', _⟩ := h.ay hy
        rw [hd']
        simp only [Option.getD_some]
        intro e
        exact h.c _ hd (e ▸ hd')
  refine h2.trans ?_
  rcases hn with rfl | he
  · exact DenR.rfl_ _
  · exact gden_N (by
      cases hy : isEv y.o with
      | false => rfl
      | true => exact absurd ⟨he, hy⟩ h.e) (h.fy he)
theorem putA_comm {T : Nat → AV} {d e : Option Nat} (h : ∀ k, d = some k → e ≠ some k) (r q : AV) : putA (putA T d r) e q = putA (putA T e q) d r := by
  cases d with
  | none => rfl
  | some d =>
    cases e with
    | none => rfl
    | some e =>
      have hne : d ≠ e := fun e2 => h d rfl (by rw [e2])
      funext j
      simp only [putA, upd]
      by_cases h1 : j = e
      · subst h1; rw [if_pos rfl, if_neg (Ne.symm hne), if_pos rfl]
      · rw [if_neg h1]
        by_cases h2 : j = d
        · rw [if_pos h2, if_pos h2]
        · rw [if_neg h2, if_neg h2, if_neg h1]
theorem memA_comm {M : Nat → Nat × List AV} {m n : Option (Nat × Nat × List AV)} (h : ∀ b c b' c', m = some (b, c) → n = some (b', c') → b ≠ b') : memA (memA M m) n = memA (memA M n) m := by
  cases m with
  | none => rfl
  | some p =>
    cases n with
    | none => rfl
    | some q =>
      obtain ⟨b, c⟩ := p
      obtain ⟨b', c'⟩ := q
      have hne := h b c b' c' rfl rfl
      funext j
      simp only [memA, upd]
      by_cases h1 : j = b'
      · subst h1; rw [if_pos rfl, if_neg (Ne.symm hne), if_pos rfl]
      · rw [if_neg h1]
        by_cases h2 : j = b
        · rw [if_pos h2, if_pos h2]
        · rw [if_neg h2, if_neg h2, if_neg h1]
theorem swap {x y : AOper} (h : Ind x y) {s : AS} {K : AS → Prop} (hk : astep Γ x s (fun s1 => astep Γ y s1 K)) : astep Γ y s (fun s1 => astep Γ x s1 K) := by
  rw [astep_iff] at hk ⊢
  have hk' := runD_mono (fun s' h2 => (astep_iff Γ y s' K).1 h2) hk
  refine runD_mono (fun s' h2 => (astep_iff Γ x s' K).2 h2) ?_
  clear hk
  have fx := gden_facts (Γ := Γ) s x
  have fy := gden_facts (Γ := Γ) s y
  have ax := fun (r : AV) (mx : Option (Nat × Nat × List AV)) (N' : Nat) hm hn => after (Γ := Γ) h (T := s.T) (M := s.M) (N := s.N) (N' := N') (r := r) (mx := mx) hm hn
  have ay := fun (r : AV) (mx : Option (Nat × Nat × List AV)) (N' : Nat) hm hn => after (Γ := Γ) h.symm (T := s.T) (M := s.M) (N := s.N) (N' := N') (r := r) (mx := mx) hm hn
  have es : (⟨s.T, s.M, s.N⟩ : AS) = s := rfl
  rw [es] at ax ay
  generalize hx : gden Γ x s = Dx at *
  generalize hy : gden Γ y s = Dy at *
  cases Dx with
  | bad => exact hk'.elim
  | ne sx rx mx =>
    obtain ⟨hs, hr⟩ := hk'
    have hmx : ∀ b c, mx = some (b, c) → isSt x.o = true ∨ (isAl x.o = true ∧ b = x.d.getD 0) := by
      intro b c e
      subst e
      exact fx.2
    obtain ⟨r0, hr0⟩ := fx.1 hs
    have ax' := fun r => ax r mx s.N hmx (.inl rfl)
    cases Dy with
    | bad =>
      have h0 : runD (gden Γ y ⟨putA s.T x.d r0, memA s.M mx, s.N⟩) y.d ⟨putA s.T x.d r0, memA s.M mx, s.N⟩ K := hr r0 hr0
      have d0 := ax' r0
      generalize gden Γ y ⟨putA s.T x.d r0, memA s.M mx, s.N⟩ = D at h0 d0
      cases D with
      | bad => exact h0.elim
      | ne _ _ _ => exact d0.elim
      | ev _ _ => exact d0.elim
    | ne sy ry my =>
      have hmy : ∀ b c, my = some (b, c) → isSt y.o = true ∨ (isAl y.o = true ∧ b = y.d.getD 0) := by
        intro b c e
        subst e
        exact fy.2
      have key : ∀ r, rx r → sy ∧ ∀ q, ry q → K ⟨putA (putA s.T x.d r) y.d q, memA (memA s.M mx) my, s.N⟩ := by
        intro r hrr
        have h0 : runD (gden Γ y ⟨putA s.T x.d r, memA s.M mx, s.N⟩) y.d ⟨putA s.T x.d r, memA s.M mx, s.N⟩ K := hr r hrr
        have d0 := ax' r
        generalize gden Γ y ⟨putA s.T x.d r, memA s.M mx, s.N⟩ = D at h0 d0
        cases D with
        | bad => exact h0.elim
        | ev _ _ => exact d0.elim
        | ne sy' ry' my' =>
          obtain ⟨d1, d2, d3⟩ := d0
          subst d3
          exact ⟨d1.1 h0.1, fun q hq => h0.2 q ((d2 h0.1 q).2 hq)⟩
      refine ⟨(key r0 hr0).1, fun q hq => ?_⟩
      have d0 := ay q my s.N hmy (.inl rfl)
      show runD (gden Γ x ⟨putA s.T y.d q, memA s.M my, s.N⟩) x.d ⟨putA s.T y.d q, memA s.M my, s.N⟩ K
      generalize gden Γ x ⟨putA s.T y.d q, memA s.M my, s.N⟩ = D at d0 ⊢
      cases D with
      | bad => exact d0.elim
      | ev _ _ => exact d0.elim
      | ne sx' rx' mx' =>
        obtain ⟨d1, d2, d3⟩ := d0
        subst d3
        refine ⟨d1.2 hs, fun r hrr => ?_⟩
        have := (key r ((d2 (d1.2 hs) r).1 hrr)).2 q hq
        rw [putA_comm h.c, memA_comm (fun b c b' c' e1 e2 => ?_)] at this
        · exact this
        · rcases hmx b c e1 with g | ⟨g1, g2⟩
          · have hn := noM_facts (h.sx g)
            rcases hmy b' c' e2 with g | ⟨g3, g4⟩
            · rw [hn.1] at g; cases g
            · rw [hn.2.1] at g3; cases g3
          · rcases hmy b' c' e2 with g | ⟨g3, g4⟩
            · have := (noM_facts (h.sy g)).2.1; rw [g1] at this; cases this
            · obtain ⟨d, hd, _⟩ := h.ax g1
              obtain ⟨d', hd', _⟩ := h.ay g3
              rw [hd] at g2
              rw [hd'] at g4
              simp only [Option.getD_some] at g2 g4
              subst g2
              subst g4
              exact fun e => h.c _ hd (e ▸ hd')
    | ev sy ry =>
      have hey : isEv y.o = true := fy.2
      have key : ∀ r, rx r → sy ∧ ∀ q N', ry q N' → s.N ≤ N' → K ⟨putA (putA s.T x.d r) y.d q, memA s.M mx, N'⟩ := by
        intro r hrr
        have h0 : runD (gden Γ y ⟨putA s.T x.d r, memA s.M mx, s.N⟩) y.d ⟨putA s.T x.d r, memA s.M mx, s.N⟩ K := hr r hrr
        have d0 := ax' r
        generalize gden Γ y ⟨putA s.T x.d r, memA s.M mx, s.N⟩ = D at h0 d0
        cases D with
        | bad => exact h0.elim
        | ne _ _ _ => exact d0.elim
        | ev sy' ry' =>
          obtain ⟨d1, d2⟩ := d0
          exact ⟨d1.1 h0.1, fun q N' hq hn => h0.2 q N' ((d2 h0.1 q N').2 hq) hn⟩
      refine ⟨(key r0 hr0).1, fun q N' hq hn => ?_⟩
      have d0 := ay q none N' (fun _ _ e => by cases e) (.inr hey)
      show runD (gden Γ x ⟨putA s.T y.d q, memA s.M none, N'⟩) x.d ⟨putA s.T y.d q, s.M, N'⟩ K
      generalize gden Γ x ⟨putA s.T y.d q, memA s.M none, N'⟩ = D at d0 ⊢
      cases D with
      | bad => exact d0.elim
      | ev _ _ => exact d0.elim
      | ne sx' rx' mx' =>
        obtain ⟨d1, d2, d3⟩ := d0
        subst d3
        refine ⟨d1.2 hs, fun r hrr => ?_⟩
        have := (key r ((d2 (d1.2 hs) r).1 hrr)).2 q N' hq hn
        rw [putA_comm h.c] at this
        exact this
  | ev sx rx =>
    obtain ⟨hs, hr⟩ := hk'
    have hex : isEv x.o = true := fx.2
    obtain ⟨r0, n0, hr0, hn0⟩ := fx.1 hs
    cases Dy with
    | bad =>
      have h0 : runD (gden Γ y ⟨putA s.T x.d r0, memA s.M none, n0⟩) y.d ⟨putA s.T x.d r0, s.M, n0⟩ K := hr r0 n0 hr0 hn0
      have d0 := ax r0 none n0 (fun _ _ e => by cases e) (.inr hex)
      generalize gden Γ y ⟨putA s.T x.d r0, memA s.M none, n0⟩ = D at h0 d0
      cases D with
      | bad => exact h0.elim
      | ne _ _ _ => exact d0.elim
      | ev _ _ => exact d0.elim
    | ev sy ry => exact absurd ⟨hex, fy.2⟩ h.e
    | ne sy ry my =>
      have hmy : ∀ b c, my = some (b, c) → isSt y.o = true ∨ (isAl y.o = true ∧ b = y.d.getD 0) := by
        intro b c e
        subst e
        exact fy.2
      have key : ∀ r N', rx r N' → s.N ≤ N' → sy ∧ ∀ q, ry q → K ⟨putA (putA s.T x.d r) y.d q, memA s.M my, N'⟩ := by
        intro r N' hrr hn
        have h0 : runD (gden Γ y ⟨putA s.T x.d r, memA s.M none, N'⟩) y.d ⟨putA s.T x.d r, s.M, N'⟩ K := hr r N' hrr hn
        have d0 := ax r none N' (fun _ _ e => by cases e) (.inr hex)
        generalize gden Γ y ⟨putA s.T x.d r, memA s.M none, N'⟩ = D at h0 d0
        cases D with
        | bad => exact h0.elim
        | ev _ _ => exact d0.elim
        | ne sy' ry' my' =>
          obtain ⟨d1, d2, d3⟩ := d0
          subst d3
          exact ⟨d1.1 h0.1, fun q hq => h0.2 q ((d2 h0.1 q).2 hq)⟩
      refine ⟨(key r0 n0 hr0 hn0).1, fun q hq => ?_⟩
      have d0 := ay q my s.N hmy (.inl rfl)
      show runD (gden Γ x ⟨putA s.T y.d q, memA s.M my, s.N⟩) x.d ⟨putA s.T y.d q, memA s.M my, s.N⟩ K
      generalize gden Γ x ⟨putA s.T y.d q, memA s.M my, s.N⟩ = D at d0 ⊢
      cases D with
      | bad => exact d0.elim
      | ne _ _ _ => exact d0.elim
      | ev sx' rx' =>
        obtain ⟨d1, d2⟩ := d0
        refine ⟨d1.2 hs, fun r N' hrr hn => ?_⟩
        have := (key r N' ((d2 (d1.2 hs) r N').1 hrr) hn).2 q hq
        rw [putA_comm h.c] at this
        exact this
/-- A step that the ones ahead of it look at nothing of may be done first. -/
theorem pull : ∀ {r1 : List AOper} {y : AOper} {r2 : List AOper} {s : AS} {K : AS → Prop}, (∀ x ∈ r1, Ind x y) → aops Γ (r1 ++ y :: r2) s K → aops Γ (y :: (r1 ++ r2)) s K
  | [], _, _, _, _, _, h => h
  | x :: r1, y, r2, s, K, hi, h => by
    have h1 : astep Γ x s (fun s1 => astep Γ y s1 (fun s2 => aops Γ (r1 ++ r2) s2 K)) := astep_mono (fun s1 h2 => pull (r1 := r1) (fun z hz => hi z (List.mem_cons_of_mem _ hz)) h2) h
    exact swap (hi x List.mem_cons_self) h1
end
end Go.Proofs.Ytipfdcmjcelbiaa.Safe
end

section
/-! ## S11: What a region of operations comes to, in whatever order its edges allow; no conditions. -/
set_option linter.unusedVariables false
set_option linter.unusedSimpArgs false
namespace Go.Proofs.Ytipfdcmjcelbiaa.Safe
open Go Go.RowKit

def dstOk (nt : Nat) (o : Oper) : Bool := match o.dst with | some d => decide (d < nt) | none => true
/-- A table: numbers in a row that is looked into in the same region, and nothing else. -/
def isTab (ops : Array Oper) (o : Oper) : Bool :=
  match o.op with
  | .buildSlice 57 n _ => n != 0 && ops.any (fun q => match q.op with | .indexAddr 57 (.tmp d) _ => o.dst == some d | _ => false)
  | _ => false
def annT (ops : Array Oper) (fl : Bool) (al : List Nat) (o : Oper) : Option AOp :=
  if isTab ops o = true then
    (match o.op with
    | .buildSlice 57 n ps => (match annElems 0 ps.toList with | some l => if n = l.length ∧ n ≤ 16 ∧ 0 < n then some (.tab l) else none | none => none)
    | _ => none)
  else annOp fl al o.type o.op
def annOper (nt : Nat) (ops : Array Oper) (fl : Bool) (al : List Nat) (o : Oper) : Option AOper :=
  if dstOk nt o = true then
    (match annT ops fl al o with
    | some ao =>
      (match o.guard with
      | none => some ⟨o.dst, none, ao⟩
      | some (g, want) => match (ops[g]?).bind (·.dst) with | some t => some ⟨o.dst, some (t, want), ao⟩ | none => none)
    | none => none)
  else none
section
variable {Γ : Ctx} {B : Base} {nt : Nat} {w0 : World} {S0 : Nat → Prop} {s : AS} {S : Nat → Prop} {L : Nat → Nat} {a : Act} {w : World} {o : Oper} {K : AS → Prop} {Q : Exit → Act → World → Prop} {ops : Array Oper} {fl : Bool} {al : List Nat} {ao : AOper}
theorem tabL_len {T : Nat → AV} : ∀ {l : List X} {v : List AV}, tabL T l = some v → v.length = l.length
  | [], v, h => by
    simp only [tabL, Option.some.injEq] at h
    subst h
    rfl
  | x :: l, v, h => by
    simp only [tabL] at h
    split at h
    · rename_i k r h1 h2
      injection h with h
      subst h
      simp [tabL_len h2]
    · cases h
theorem stepT_ok (hΓ : COk B Γ) (hR : Rel B nt w0 S0 s S L a w) (hd : ∀ k, o.dst = some k → k < nt) {aop : AOp} (h : annT ops fl al o = some aop) (hK : runD (den Γ (o.dst.getD 0) s aop) o.dst s K) : o.wp Try.prog a w (Goal B nt w0 S0 K) Q := by
  unfold annT at h
  split at h
  · split at h
    · rename_i n ps hop
      split at h
      · rename_i l hl
        split at h
        · rename_i hn
          injection h with h
          subst h
          simp only [den] at hK
          split at hK
          · rename_i v hv
            exact op_tab hR hd hop hl hn.1 hn.2.1 hn.2.2 hv (by rw [tabL_len hv]; exact hn.1.symm) (hK.2 _ rfl)
          · exact hK.elim
        · cases h
      · cases h
    · cases h
  · exact step_ok hΓ hR hd h hK
theorem tmpAt (hR : Rel B nt w0 S0 s S L a w) {t : Nat} {v : Value} (h : a.tmps.getD t Go.undef = v) : a.tmps[t]? = some v ∨ (a.tmps[t]? = none ∧ v = Go.undef) := by
  rw [Array.getD_eq_getD_getElem?] at h
  cases e : a.tmps[t]? with
  | none => rw [e] at h; exact .inr ⟨rfl, h.symm⟩
  | some u => rw [e] at h; exact .inl (congrArg some h)
theorem wpOp_ok (hΓ : COk B Γ) {i : Nat} (ho : ops[i]? = some o) (h : annOper nt ops fl al o = some ao) (hR : Rel B nt w0 S0 s S L a w) (hk : astep Γ ao s K) : wpOp Try.prog ops Q i (Goal B nt w0 S0 K) a w := by
  unfold annOper at h
  split at h
  · rename_i hd0
    have hd : ∀ k, o.dst = some k → k < nt := by
      intro k e
      unfold dstOk at hd0
      rw [e] at hd0
      simpa using hd0
    split at h
    · rename_i aop hop
      split at h
      · rename_i hg
        injection h with h
        subst h
        unfold wpOp
        simp only [ho]
        rw [if_pos (show Region.wanted o (yielded ops a.tmps) = true by simp [Region.wanted, hg])]
        exact .inl (stepT_ok hΓ hR hd hop hk)
      · rename_i g want hg
        split at h
        · rename_i t ht
          injection h with h
          subst h
          rw [astep_iff] at hk
          have hyld : yielded ops a.tmps g = match a.tmps[t]? with | some (.bool b) => some b | _ => none := by
            unfold yielded
            rw [ht]
            simp only [Option.bind_some]
            cases a.tmps[t]? with
            | none => rfl
            | some u => cases u <;> rfl
          have htm := hR.tm t
          unfold wpOp
          simp only [ho]
          unfold gden at hk
          simp only at hk
          split at hk
          · rename_i b hb
            rw [hb] at htm
            have htm : a.tmps.getD t Go.undef = .bool b := htm
            rcases tmpAt hR htm with e | ⟨e, e2⟩
            · rw [e] at hyld
              split at hk
              · rename_i hbw
                subst hbw
                rw [if_pos (show Region.wanted o (yielded ops a.tmps) = true by simp [Region.wanted, hg, hyld])]
                exact .inl (stepT_ok hΓ hR hd hop hk)
              · rename_i hbw
                rw [if_neg (show ¬ Region.wanted o (yielded ops a.tmps) = true by simp [Region.wanted, hg, hyld]; exact hbw)]
                exact ⟨_, S, L, hk.2 _ rfl, hR.put hd rfl⟩
            · cases e2
          · rename_i hb
            rw [hb] at htm
            have htm : a.tmps.getD t Go.undef = Go.undef := htm
            have hy2 : yielded ops a.tmps g = none := by
              rcases tmpAt hR htm with e | ⟨e, _⟩
              · rw [e] at hyld; exact hyld
              · rw [e] at hyld; exact hyld
            rw [if_neg (show ¬ Region.wanted o (yielded ops a.tmps) = true by simp [Region.wanted, hg, hy2])]
            exact ⟨_, S, L, hk.2 _ rfl, hR.put hd rfl⟩
          · exact hk.elim
        · cases h
    · cases h
  · cases h
/-- What is known of a region's operations: one by one. -/
def AnnAll (nt : Nat) (ops : Array Oper) (A : List AOper) : Prop := (∀ i : Nat, ops[i]? = none → A[i]? = none) ∧ ∀ (i : Nat) (o : Oper), ops[i]? = some o → ∃ (ao : AOper) (fl : Bool) (al : List Nat), A[i]? = some ao ∧ annOper nt ops fl al o = some ao
def sel (A : List AOper) (idx : List Nat) : List AOper := idx.filterMap (A[·]?)
theorem wpOps_ok (hΓ : COk B Γ) {A : List AOper} (hA : AnnAll nt ops A) (hQ : ∀ s' S' L' a' w', K s' → Rel B nt w0 S0 s' S' L' a' w' → Q .normal a' w') : ∀ (idx : List Nat) (s : AS) (S : Nat → Prop) (L : Nat → Nat) (a : Act) (w : World), Rel B nt w0 S0 s S L a w → aops Γ (sel A idx) s K → wpOps Try.prog ops Q idx a w
  | [], s, S, L, a, w, hR, hk => hQ s S L a w hk hR
  | i :: idx, s, S, L, a, w, hR, hk => by
    rw [wpOps_cons]
    cases ho : ops[i]? with
    | none =>
      have := hA.1 i ho
      unfold wpOp
      simp only [ho]
      simp only [sel, List.filterMap_cons, this] at hk
      exact wpOps_ok hΓ hA hQ idx s S L a w hR hk
    | some o =>
      obtain ⟨ao, fl, al, h1, h2⟩ := hA.2 i o ho
      simp only [sel, List.filterMap_cons, h1, aops] at hk
      exact wpOp_mono (fun a' w' ⟨s', S', L', hk', hR'⟩ => wpOps_ok hΓ hA hQ idx s' S' L' a' w' hR' hk') (wpOp_ok hΓ ho h2 hR hk)
end

/-! ### orders -/
theorem sel_range : ∀ (A : List AOper), sel A (List.range A.length) = A
  | [] => rfl
  | x :: A => by
    have := sel_range A
    unfold sel at this ⊢
    rw [List.length_cons, List.range_succ_eq_map, List.filterMap_cons]
    simp only [List.getElem?_cons_zero, List.filterMap_map]
    congr 1
theorem range_split {n i : Nat} (h : i < n) : ∃ t, List.range n = List.range i ++ i :: t ∧ ∀ j ∈ t, i < j := by
  refine ⟨List.range' (i + 1) (n - i - 1), ?_, fun j hj => ?_⟩
  · have e : n = i + (1 + (n - i - 1)) := by omega
    rw [List.range_eq_range', List.range_eq_range']
    conv => lhs; rw [e]
    rw [← List.range'_append_1, ← List.range'_append_1]
    simp [List.range']
  · simp [List.mem_range'_1] at hj
    omega
def preds (o : Oper) : List Nat := (o.after.toList.filter (Region.binds .any ·)).map (·.on)
/-- The operations that come ahead of each, as bits. -/
def ancL : List Oper → List Nat → List Nat
  | [], acc => acc
  | o :: r, acc => ancL r (acc ++ [(preds o).foldl (fun b p => (b ||| acc.getD p 0) ||| (1 <<< p)) 0])
def okAt (P : List (List Nat)) (A : List AOper) (m : List Nat) (i : Nat) : Bool :=
  let pi := P.getD i []
  let mi := m.getD i 0
  pi.all (· < i) && (List.range i).all (fun j => mi.testBit j || (match A[j]?, A[i]? with | some x, some y => indep x y | _, _ => false)) &&
  (List.range P.length).all (fun j => !mi.testBit j || pi.contains j || pi.any (fun p => (m.getD p 0).testBit j))
def okAny (ops : Array Oper) (A : List AOper) : Bool :=
  let P := ops.toList.map preds
  let m := ancL ops.toList []
  A.length == ops.size && m.all (· < 1 <<< ops.size) && (List.range ops.size).all (okAt P A m)
section
variable {Γ : Ctx} {K : AS → Prop} {ops : Array Oper} {A : List AOper}
/-- All that stands ahead of what is listed is listed. -/
def Closed (ops : Array Oper) (li : Array Bool) : Prop := ∀ k o, li.getD k false = true → ops[k]? = some o → ∀ p ∈ preds o, li.getD p false = true
theorem mem_preds {o : Oper} {p : Nat} : p ∈ preds o ↔ ∃ e ∈ o.after, Region.binds .any e = true ∧ e.on = p := by
  simp [preds, and_assoc]
theorem okAny_facts (h : okAny ops A = true) : A.length = ops.size ∧ ∃ m : List Nat, ∀ i o, ops[i]? = some o → (∀ p ∈ preds o, p < i) ∧ (∀ j, j < i → (m.getD i 0).testBit j = true ∨ ∃ x y, A[j]? = some x ∧ A[i]? = some y ∧ indep x y = true) ∧ (∀ j, (m.getD i 0).testBit j = true → j ∈ preds o ∨ ∃ p ∈ preds o, (m.getD p 0).testBit j = true) := by
  simp only [okAny, Bool.and_eq_true, beq_iff_eq] at h
  obtain ⟨⟨h1, hm⟩, h2⟩ := h
  refine ⟨h1, ancL ops.toList [], fun i o ho => ?_⟩
  have hi : i < ops.size := (Array.getElem?_eq_some_iff.1 ho).1
  have h3 := List.all_eq_true.1 h2 i (List.mem_range.2 hi)
  have hP : (ops.toList.map preds).getD i [] = preds o := by
    simp [List.getD_eq_getElem?_getD, ho]
  simp only [okAt, hP, Bool.and_eq_true] at h3
  obtain ⟨⟨h4, h5⟩, h6⟩ := h3
  refine ⟨fun p hp => by simpa using List.all_eq_true.1 h4 p hp, fun j hj => ?_, fun j hb => ?_⟩
  · have := List.all_eq_true.1 h5 j (List.mem_range.2 hj)
    simp only [Bool.or_eq_true] at this
    refine this.imp id (fun h7 => ?_)
    split at h7
    · rename_i x y hx hy
      exact ⟨x, y, hx, hy, h7⟩
    · cases h7
  · have hj : j < ops.size := by
      rcases Nat.lt_or_ge j ops.size with h7 | h7
      · exact h7
      · exfalso
        have hlt : (ancL ops.toList []).getD i 0 < 2 ^ j := by
          rw [List.getD_eq_getElem?_getD]
          cases he : (ancL ops.toList [])[i]? with
          | none => exact Nat.two_pow_pos j
          | some x =>
            have := List.all_eq_true.1 hm x (List.mem_of_getElem? he)
            simp only [decide_eq_true_eq, Nat.one_shiftLeft] at this
            exact Nat.lt_of_lt_of_le this (Nat.pow_le_pow_right (by decide) h7)
        rw [Nat.testBit_lt_two_pow hlt] at hb
        cases hb
    have := List.all_eq_true.1 h6 j (List.mem_range.2 (by simpa using hj))
    simp only [Bool.or_eq_true, Bool.not_eq_true', hb, Bool.true_eq_false, false_or] at this
    refine this.imp (fun h7 => by simpa using h7) (fun h7 => ?_)
    obtain ⟨p, hp, hq⟩ := List.any_eq_true.1 h7
    exact ⟨p, hp, hq⟩
/-- What stands ahead of one that is ready is listed. -/
theorem anc_listed {m : List Nat} (hm : ∀ i o, ops[i]? = some o → (∀ p ∈ preds o, p < i) ∧ (∀ j, (m.getD i 0).testBit j = true → j ∈ preds o ∨ ∃ p ∈ preds o, (m.getD p 0).testBit j = true)) {li : Array Bool} (hc : Closed ops li) : ∀ (i : Nat) (o : Oper), ops[i]? = some o → (∀ p ∈ preds o, li.getD p false = true) → ∀ j, (m.getD i 0).testBit j = true → li.getD j false = true := by
  intro i
  induction i using Nat.strongRecOn with
  | _ i ih =>
    intro o ho hp j hb
    obtain ⟨h1, h2⟩ := hm i o ho
    rcases h2 j hb with h3 | ⟨p, h3, h4⟩
    · exact hp j h3
    · have hpi := h1 p h3
      have hlt : i < ops.size := (Array.getElem?_eq_some_iff.1 ho).1
      have hop : ops[p]? = some ops[p] := Array.getElem?_eq_getElem (by omega)
      exact ih p hpi _ hop (hc p _ (hp p h3) hop) j h4
def left (n : Nat) (li : Array Bool) : List Nat := (List.range n).filter (fun i => !li.getD i true)
theorem getD_ft {li : Array Bool} {k : Nat} (hk : k < li.size) : li.getD k false = li.getD k true := by simp [Array.getD, hk]
theorem left_split {n i : Nat} {li : Array Bool} (hn : i < n) (hu : li.getD i true = false) : ∃ r1 r2, left n li = r1 ++ i :: r2 ∧ left n (li.setIfInBounds i true) = r1 ++ r2 ∧ ∀ j ∈ r1, j < i ∧ li.getD j true = false := by
  obtain ⟨t, ht, hgt⟩ := range_split hn
  have hsz : i < li.size := by
    rcases Nat.lt_or_ge i li.size with h | h
    · exact h
    · simp [Array.getD, Nat.not_lt.2 h] at hu
  refine ⟨(List.range i).filter (fun i => !li.getD i true), t.filter (fun i => !li.getD i true), ?_, ?_, fun j hj => ?_⟩
  · unfold left
    rw [ht, List.filter_append, List.filter_cons, if_pos (by simp [hu])]
  · unfold left
    rw [ht, List.filter_append, List.filter_cons, if_neg (by simp [Array.getD, hsz])]
    congr 1
    · exact List.filter_congr (fun j hj => by rw [getD_set_ne true (by have := List.mem_range.1 hj; omega)])
    · exact List.filter_congr (fun j hj => by rw [getD_set_ne true (by have := hgt j hj; omega)])
  · rw [List.mem_filter, List.mem_range] at hj
    exact ⟨hj.1, by simpa using hj.2⟩
theorem anyOrder (h : okAny ops A = true) : ∀ (fuel t : Nat) (li : Array Bool) (s : AS), li.size = ops.size → Closed ops li → (left ops.size li).length ≤ fuel → aops Γ (sel A (left ops.size li)) s K → aops Γ (sel A (Region.linearise.go .any ops fuel t li [])) s K := by
  obtain ⟨hlen, m, hm⟩ := okAny_facts h
  intro fuel
  induction fuel with
  | zero =>
    intro t li s hsz hc hf hk
    have : left ops.size li = [] := List.length_eq_zero_iff.1 (by omega)
    rw [this] at hk
    exact hk
  | succ fuel ih =>
    intro t li s hsz hc hf hk
    simp only [Region.linearise.go]
    change aops Γ (sel A (match (Region.ready .any ops li)[t % (Region.ready .any ops li).length]? with
      | some i => Region.linearise.go .any ops fuel (t / (Region.ready .any ops li).length) (li.setIfInBounds i true) [i]
      | none => [].reverse)) s K
    cases hi : (Region.ready .any ops li)[t % (Region.ready .any ops li).length]? with
    | none =>
      have hnil : Region.ready .any ops li = [] := by
        cases hr : Region.ready .any ops li with
        | nil => rfl
        | cons x xs =>
          rw [hr] at hi
          have hlt : t % (x :: xs).length < (x :: xs).length := Nat.mod_lt _ (by simp)
          rw [List.getElem?_eq_none_iff] at hi
          omega
      have hno : ∀ i, i < ops.size → li.getD i true = true := by
        intro i
        induction i using Nat.strongRecOn with
        | _ i ih2 =>
          intro hi2
          cases hu : li.getD i true with
          | true => rfl
          | false =>
            have hop : ops[i]? = some ops[i] := Array.getElem?_eq_getElem hi2
            have : i ∈ Region.ready .any ops li := mem_ready.2 ⟨hu, _, hop, fun e he hb => by
              have hp := (hm i _ hop).1 e.on (mem_preds.2 ⟨e, he, hb, rfl⟩)
              rw [getD_ft (by omega)]
              exact ih2 _ hp (by omega)⟩
            rw [hnil] at this
            cases this
      have : left ops.size li = [] := by
        unfold left
        rw [List.filter_eq_nil_iff]
        intro i hi2
        simp [hno i (List.mem_range.1 hi2)]
      rw [this] at hk
      exact hk
    | some i =>
      simp only []
      rw [linearise_go_acc, List.reverse_singleton, List.singleton_append]
      obtain ⟨hu, o, ho, hall⟩ := mem_ready.1 (List.mem_of_getElem? hi)
      have hin : i < ops.size := (Array.getElem?_eq_some_iff.1 ho).1
      obtain ⟨r1, r2, e1, e2, e3⟩ := left_split hin hu
      have hpl : ∀ p ∈ preds o, li.getD p false = true := fun p hp => by
        obtain ⟨e, he, hb, rfl⟩ := mem_preds.1 hp
        exact hall e he hb
      obtain ⟨y, hy⟩ : ∃ y, A[i]? = some y := ⟨A[i]'(by omega), List.getElem?_eq_getElem (by omega)⟩
      rw [e1] at hk
      have hk2 : aops Γ (sel A r1 ++ y :: sel A r2) s K := by
        simpa [sel, List.filterMap_append, List.filterMap_cons, hy] using hk
      have hind : ∀ x ∈ sel A r1, Ind x y := by
        intro x hx
        obtain ⟨j, hj, hjx⟩ := List.mem_filterMap.1 hx
        obtain ⟨hji, hju⟩ := e3 j hj
        rcases (hm i o ho).2.1 j hji with h4 | ⟨x', y', h4, h5, h6⟩
        · have := anc_listed (fun i o ho => ⟨(hm i o ho).1, (hm i o ho).2.2⟩) hc i o ho hpl j h4
          rw [getD_ft (by omega), hju] at this
          cases this
        · rw [hjx] at h4
          rw [hy] at h5
          injection h4 with h4
          injection h5 with h5
          subst h4; subst h5
          exact Ind.of h6
      have hk3 := pull hind hk2
      have e4 : sel A (i :: Region.linearise.go .any ops fuel (t / (Region.ready .any ops li).length) (li.setIfInBounds i true) []) = y :: sel A (Region.linearise.go .any ops fuel (t / (Region.ready .any ops li).length) (li.setIfInBounds i true) []) := by
        simp [sel, List.filterMap_cons, hy]
      rw [e4]
      refine astep_mono (fun s1 h1 => ih _ _ s1 (by simpa using hsz) ?_ ?_ ?_) hk3
      · intro k ok hk1 hok p hp
        by_cases hki : i = k
        · subst hki
          rw [ho] at hok
          injection hok with hok
          subst hok
          exact getD_set_true (hpl p hp)
        · rw [getD_set_ne false hki] at hk1
          exact getD_set_true (hc k ok hk1 hok p hp)
      · rw [e2]
        rw [e1] at hf
        simp at hf ⊢
        omega
      · rw [e2]
        simpa [sel, List.filterMap_append] using h1
theorem any_ok (h : okAny ops A = true) {s : AS} (hk : aops Γ A s K) (t : Nat) : aops Γ (sel A (Region.linearise .any ops t)) s K := by
  have hl : left ops.size (Array.replicate ops.size false) = List.range ops.size := by
    unfold left
    rw [List.filter_eq_self]
    intro i hi
    simp [Array.getD, List.mem_range.1 hi]
  refine anyOrder h _ _ _ _ (by simp) ?_ (by rw [hl]; simp) ?_
  · intro k o hk1 ho p hp
    have hlt : k < ops.size := (Array.getElem?_eq_some_iff.1 ho).1
    simp [Array.getD, hlt] at hk1
  · rw [hl, ← (okAny_facts h).1, sel_range]
    exact hk
end
end Go.Proofs.Ytipfdcmjcelbiaa.Safe
end

section
/-! ## S12: What the typed machine shows of a body holds of the model's function; no conditions. -/
set_option linter.unusedVariables false
set_option linter.unusedSimpArgs false
namespace Go.Proofs.Ytipfdcmjcelbiaa.Safe
open Go Go.RowKit

/-! ### a body, read -/
def unord (m : List Nat) (i j : Nat) : Bool := i != j && !(m.getD i 0).testBit j && !(m.getD j 0).testBit i
def evO (o : Oper) : Bool := match o.op with | .call c => (match c.callee with | .builtin .len => false | _ => true) | _ => false
def alO (ops : List Oper) (o : Oper) : Bool := match o.op with | .alloc _ => true | .box _ _ => true | _ => isTab ops.toArray o
def flOf (m : List Nat) (ops : List Oper) (i : Nat) : Bool := (List.range ops.length).all fun j => !(unord m i j && ((ops[j]?).map evO).getD false)
def alOf (m : List Nat) (ops : List Oper) (i : Nat) : List Nat := (List.range ops.length).filterMap fun j => if unord m i j && ((ops[j]?).map (alO ops)).getD false then (ops[j]?).bind (·.dst) else none
def annGo (nt : Nat) (ops : Array Oper) (fl : Nat → Bool) (al : Nat → List Nat) : Nat → List Oper → Option (List AOper)
  | _, [] => some []
  | i, o :: r => match annOper nt ops (fl i) (al i) o, annGo nt ops fl al (i + 1) r with | some x, some l => some (x :: l) | _, _ => none
def annOps (nt : Nat) (ops : Array Oper) (draw : Bool) : Option (List AOper) :=
  if draw then
    (match annGo nt ops (flOf (ancL ops.toList []) ops.toList) (alOf (ancL ops.toList []) ops.toList) 0 ops.toList with
    | some A => if okAny ops A then some A else none
    | none => none)
  else annGo nt ops (fun _ => true) (fun _ => []) 0 ops.toList
def ann (nt : Nat) : Code → Option ACode
  | .skip => some .skip
  | .region _ ops draw => (annOps nt ops draw).map .ops
  | .seq a b => match ann nt a, ann nt b with | some x, some y => some (.seq x y) | _, _ => none
  | .cond c a b => match annX 0 c, ann nt a, ann nt b with | some z, some x, some y => some (.cond z x y) | _, _, _ => none
  | .block id c => (ann nt c).map (.blk id)
  | .loop c => (ann nt c).map .loop
  | .exit id => some (.exit id)
  | .ret => some .ret
  | _ => none
theorem annGo_all {nt : Nat} {ops : Array Oper} {fl : Nat → Bool} {al : Nat → List Nat} : ∀ {l : List Oper} {k : Nat} {A : List AOper}, annGo nt ops fl al k l = some A → A.length = l.length ∧ ∀ (i : Nat) (o : Oper), l[i]? = some o → ∃ (ao : AOper) (fl : Bool) (al : List Nat), A[i]? = some ao ∧ annOper nt ops fl al o = some ao
  | [], k, A, h => by
    simp only [annGo, Option.some.injEq] at h
    subst h
    exact ⟨rfl, fun i o h => by simp at h⟩
  | x :: l, k, A, h => by
    simp only [annGo] at h
    split at h
    · rename_i y r h1 h2
      injection h with h
      subst h
      obtain ⟨e1, e2⟩ := annGo_all h2
      refine ⟨by simp [e1], fun i o hi => ?_⟩
      cases i with
      | zero =>
        simp only [List.getElem?_cons_zero, Option.some.injEq] at hi
        subst hi
        exact ⟨y, _, _, by simp, h1⟩
      | succ i => simpa using e2 i o (by simpa using hi)
    · cases h
theorem AnnAll.of {nt : Nat} {ops : Array Oper} {fl : Nat → Bool} {al : Nat → List Nat} {A : List AOper} (h : annGo nt ops fl al 0 ops.toList = some A) : A.length = ops.size ∧ AnnAll nt ops A := by
  obtain ⟨h1, h2⟩ := annGo_all h
  have hl : A.length = ops.size := by simpa using h1
  refine ⟨hl, fun i hi => ?_, fun i o hi => h2 i o (by simpa using hi)⟩
  rw [Array.getElem?_eq_none_iff] at hi
  exact List.getElem?_eq_none (by omega)

/-! ### bodies -/
def XR : AExit → Exit → Prop
  | .norm, .normal => True
  | .exit i, .exit j => i = j
  | .ret, .ret => True
  | _, _ => False
def Lift (B : Base) (nt : Nat) (w0 : World) (S0 : Nat → Prop) (Qa : AExit → AS → Prop) : Exit → Act → World → Prop := fun e a w => ∃ ae s S L, XR ae e ∧ Qa ae s ∧ Rel B nt w0 S0 s S L a w
theorem least {P : Nat → Prop} (h : ∃ n, P n) : ∃ n, P n ∧ ∀ m, P m → n ≤ m := by
  obtain ⟨n, hn⟩ := h
  induction n using Nat.strongRecOn with
  | _ n ih =>
    by_cases hx : ∃ m, m < n ∧ P m
    · obtain ⟨m, h1, h2⟩ := hx
      exact ih m h1 h2
    · refine ⟨n, hn, fun m hm => ?_⟩
      rcases Nat.lt_or_ge m n with h | h
      · exact absurd ⟨m, h, hm⟩ hx
      · exact h
theorem wp_loop_n {c : Code} {Q : Exit → Act → World → Prop} {a : Act} {w : World} (I : Nat → Act → World → Prop) (h0 : ∃ n, I n a w) (round : ∀ n a w, I n a w → c.wp Try.prog (Exit.then (fun a' w' => ∃ m, m < n ∧ I m a' w') Q) a w) : (Code.loop c).wp Try.prog Q a w := by
  classical
  refine wp_loop (fun a w => ∃ n, I n a w) (fun a w => if h : ∃ n, I n a w then Classical.choose (least h) else 0) h0 (fun a w hI => ?_)
  obtain ⟨h1, h2⟩ := Classical.choose_spec (least hI)
  refine wp_mono (round _ a w h1) (fun e a' w' he => ?_)
  cases e with
  | normal =>
    obtain ⟨m, hm, hI'⟩ := he
    refine ⟨⟨m, hI'⟩, ?_⟩
    have h3 := (Classical.choose_spec (least (P := fun n => I n a' w') ⟨m, hI'⟩)).2 m hI'
    rw [dif_pos (⟨m, hI'⟩ : ∃ n, I n a' w'), dif_pos hI]
    exact Nat.lt_of_le_of_lt h3 hm
  | _ => exact he
section
variable {Γ : Ctx} {B : Base} {nt : Nat} {w0 : World} {S0 : Nat → Prop}
theorem Rel.drawn {s : AS} {S : Nat → Prop} {L : Nat → Nat} {a : Act} {w : World} (hR : Rel B nt w0 S0 s S L a w) (n : Nat) : Rel B nt w0 S0 s S L a { w with drawn := n } where
  defers := hR.defers
  size := hR.size
  out := ⟨hR.out.s, hR.out.new, hR.out.size, hR.out.keep, hR.out.b, hR.out.os, hR.out.tape, hR.out.output⟩
  wt := hR.wt
  tm := hR.tm
  loc := hR.loc
  inj := hR.inj
  big := hR.big
  base := hR.base
theorem setB_id {T : Nat → AV} {x : X} {t : Bool} (h : ev T x = .bool t) : setB T x t = T := by
  cases x with
  | t n => exact upd_self T n h
  | c v => rfl
theorem awp_mono : ∀ (c : ACode) {Q Q' : AExit → AS → Prop} {s : AS}, (∀ e s', Q e s' → Q' e s') → awp Γ c Q s → awp Γ c Q' s
  | .skip, _, _, s, hq, h => hq _ _ h
  | .ops l, _, _, s, hq, h => aops_mono (fun s' h => hq _ s' h) h
  | .seq a b, _, _, s, hq, h => awp_mono a (fun e s' h => match e, h with | .norm, h => awp_mono b hq h | .exit i, h => hq _ _ h | .ret, h => hq _ _ h) h
  | .cond c a b, _, _, s, hq, h => by
    simp only [awp] at h ⊢
    split at h
    · exact ⟨fun e => awp_mono a hq (h.1 e), fun e => awp_mono b hq (h.2 e)⟩
    · exact h.elim
  | .blk id a, _, _, s, hq, h => awp_mono a (fun e s' h => match e, h with
    | .norm, h => hq _ _ h
    | .exit i, h => by
      simp only at h ⊢
      split at h
      · rename_i hi; rw [if_pos hi]; exact hq _ _ h
      · rename_i hi; rw [if_neg hi]; exact hq _ _ h
    | .ret, h => hq _ _ h) h
  | .loop a, _, _, s, hq, ⟨I, h0, h⟩ => ⟨I, h0, fun n s' hI => awp_mono a (fun e s' h => match e, h with | .norm, h => h | .exit i, h => hq _ _ h | .ret, h => hq _ _ h) (h n s' hI)⟩
  | .exit i, _, _, s, hq, h => hq _ _ h
  | .ret, _, _, s, hq, h => hq _ _ h
theorem awp_ok (hΓ : COk B Γ) : ∀ (c : Code) {ac : ACode}, ann nt c = some ac → ∀ {s : AS} {S : Nat → Prop} {L : Nat → Nat} {a : Act} {w : World} {Qa : AExit → AS → Prop}, Rel B nt w0 S0 s S L a w → awp Γ ac Qa s → c.wp Try.prog (Lift B nt w0 S0 Qa) a w
  | .skip, ac, h, s, S, L, a, w, Qa, hR, hk => by
    simp only [ann, Option.some.injEq] at h
    subst h
    exact wp_skip ⟨.norm, s, S, L, trivial, hk, hR⟩
  | .region id ops draw, ac, h, s, S, L, a, w, Qa, hR, hk => by
    simp only [ann, Option.map_eq_some_iff] at h
    obtain ⟨A, hA, rfl⟩ := h
    have hQ : ∀ s' S' L' a' w', Qa .norm s' → Rel B nt w0 S0 s' S' L' a' w' → Lift B nt w0 S0 Qa .normal a' w' := fun s' S' L' a' w' h1 h2 => ⟨.norm, s', S', L', trivial, h1, h2⟩
    cases draw with
    | false =>
      obtain ⟨hl, hall⟩ := AnnAll.of (show annGo nt ops (fun _ => true) (fun _ => []) 0 ops.toList = some A from hA)
      refine wp_region (wpOps_ok hΓ hall hQ _ s S L a w hR ?_)
      rw [← hl, sel_range]
      exact hk
    | true =>
      simp only [annOps, if_true] at hA
      split at hA
      · rename_i A' hA'
        split at hA
        · rename_i hok
          injection hA with hA
          subst hA
          obtain ⟨hl, hall⟩ := AnnAll.of hA'
          refine wp_region_draw (fun t => ?_)
          have hf : Try.prog.follows .mixedOrders = true := by kernel_rfl
          simp only [Region.schedule, hf, Bool.true_or, if_true]
          exact wpOps_ok hΓ hall hQ _ s S L a _ (hR.drawn _) (any_ok hok hk t)
        · cases hA
      · cases hA
  | .seq x y, ac, h, s, S, L, a, w, Qa, hR, hk => by
    simp only [ann] at h
    split at h
    · rename_i ax ay h1 h2
      injection h with h
      subst h
      refine wp_seq (wp_mono (awp_ok hΓ x h1 hR hk) ?_)
      rintro e a' w' ⟨ae, s', S', L', hx, hq, hR'⟩
      cases ae <;> cases e <;> first
        | exact hx.elim
        | exact awp_ok hΓ y h2 hR' hq
        | exact ⟨_, s', S', L', hx, hq, hR'⟩
    · cases h
  | .cond c x y, ac, h, s, S, L, a, w, Qa, hR, hk => by
    simp only [ann] at h
    split at h
    · rename_i z ax ay h0 h1 h2
      injection h with h
      subst h
      have hz := annX_ok h0 hR
      simp only [awp] at hk
      split at hk
      · rename_i t ht
        rw [ht] at hz
        refine wp_cond_split (t := t) hz (fun e => ?_) (fun e => ?_)
        · have := hk.1 e
          subst e
          rw [setB_id ht] at this
          exact awp_ok hΓ x h1 hR this
        · have := hk.2 e
          subst e
          rw [setB_id ht] at this
          exact awp_ok hΓ y h2 hR this
      · exact hk.elim
    · cases h
  | .block id x, ac, h, s, S, L, a, w, Qa, hR, hk => by
    simp only [ann, Option.map_eq_some_iff] at h
    obtain ⟨ax, h1, rfl⟩ := h
    refine wp_block (wp_mono (awp_ok hΓ x h1 hR hk) ?_)
    rintro e a' w' ⟨ae, s', S', L', hx, hq, hR'⟩
    cases ae <;> cases e <;> first
      | exact hx.elim
      | exact ⟨_, s', S', L', hx, hq, hR'⟩
      | skip
    rename_i i j
    have hij : i = j := hx
    subst hij
    simp only [Exit.inBlock]
    simp only at hq
    split at hq
    · rename_i e; rw [if_pos e]; exact ⟨.norm, s', S', L', trivial, hq, hR'⟩
    · rename_i e; rw [if_neg e]; exact ⟨.exit i, s', S', L', rfl, hq, hR'⟩
  | .loop x, ac, h, s, S, L, a, w, Qa, hR, hk => by
    simp only [ann, Option.map_eq_some_iff] at h
    obtain ⟨ax, h1, rfl⟩ := h
    obtain ⟨I, ⟨n, hn⟩, hk⟩ := hk
    refine wp_loop_n (fun n a w => ∃ s S L, I n s ∧ Rel B nt w0 S0 s S L a w) ⟨n, s, S, L, hn, hR⟩ ?_
    rintro n a w ⟨s, S, L, hI, hR⟩
    refine wp_mono (awp_ok hΓ x h1 hR (hk n s hI)) ?_
    rintro e a' w' ⟨ae, s', S', L', hx, hq, hR'⟩
    cases ae <;> cases e <;> first
      | exact hx.elim
      | (obtain ⟨m, hm, hI'⟩ := hq; exact ⟨m, hm, s', S', L', hI', hR'⟩)
      | exact ⟨_, s', S', L', hx, hq, hR'⟩
  | .exit i, ac, h, s, S, L, a, w, Qa, hR, hk => by
    simp only [ann, Option.some.injEq] at h
    subst h
    exact wp_exit ⟨.exit i, s, S, L, rfl, hk, hR⟩
  | .ret, ac, h, s, S, L, a, w, Qa, hR, hk => by
    simp only [ann, Option.some.injEq] at h
    subst h
    exact wp_ret ⟨.ret, s, S, L, trivial, hk, hR⟩
  | .rangeFunc _ _ _ _, _, h, _, _, _, _, _, _, _, _ => by cases h
  | .scope _, _, h, _, _, _, _, _, _, _, _ => by cases h
  | .label _, _, h, _, _, _, _, _, _, _, _ => by cases h
  | .goto _, _, h, _, _, _, _, _, _, _, _ => by cases h
  | .refuse _, _, h, _, _, _, _, _, _, _, _ => by cases h
end
end Go.Proofs.Ytipfdcmjcelbiaa.Safe
end

section
/-! ## S13: From what the typed machine shows of a body to the function's contract; and the machine's run, its rest kept as data; no conditions. -/
set_option linter.unusedVariables false
set_option linter.unusedSimpArgs false
namespace Go.Proofs.Ytipfdcmjcelbiaa.Safe
open Go Go.RowKit

/-! ### results -/
inductive AR where
  | t (n : Nat) | c (a n : Nat)
def annR : ResultVar → Option AR
  | .tmp t => some (.t t)
  | .cell a ty => match tsz ty with | some (n, true) => some (.c a n) | _ => none
def annRs : List ResultVar → Option (List AR)
  | [] => some []
  | r :: l => match annR r, annRs l with | some x, some y => some (x :: y) | _, _ => none
def rv (s : AS) : AR → AV
  | .t n => s.T n
  | .c a n => match s.T a with | .ptr b v o => .agg (((s.M b).2.drop o).take n) | _ => .any
def p1 : AV → Bool
  | .ptr .. => false
  | .osl .. => false
  | .optr .. => false
  | .row .. => false
  | .tup _ => false
  | _ => true
def okR (s : AS) : AR → Prop
  | .t n => p1 (s.T n) = true
  | .c a n => match s.T a with | .ptr b v o => v = (s.M b).1 ∧ o + n ≤ (s.M b).2.length | _ => False
def okRs (s : AS) : List AR → Prop
  | [] => True
  | r :: l => okR s r ∧ okRs s l
def finR (s : AS) : List AR → AV
  | [r] => rv s r
  | l => .tup (l.map (rv s))
/-- The end of a body. -/
def fin (sp : Spec) (l : List AV) (N : Nat) (rs : List AR) : AExit → AS → Prop
  | .norm, s => okRs s rs ∧ N ≤ s.N ∧ sp.post l N (finR s rs) s.N
  | .ret, s => okRs s rs ∧ N ≤ s.N ∧ sp.post l N (finR s rs) s.N
  | .exit _, _ => False
section
variable {Γ : Ctx} {B : Base} {nt : Nat} {w0 : World} {S0 : Nat → Prop} {s : AS} {S : Nat → Prop} {L : Nat → Nat} {a : Act} {w : World}
theorem V1_of_p1 {M : Nat → Nat × List AV} {N : Nat} {x : AV} {v : Value} (h : p1 x = true) (hv : V3 M L S N w x v) : V1 S N w x v := by
  cases x <;> first | (cases h; done) | exact hv
def resF (tmps : Array Value) : ResultVar → Sem Value
  | .tmp t => pure (tmps.getD t Go.undef)
  | .cell a t => do loadVar t (← asAddr (tmps.getD a Go.undef))
theorem res1_ok (hR : Rel B nt w0 S0 s S L a w) {r : ResultVar} {x : AR} (hx : annR r = some x) (h : okR s x) : ∃ v, (resF a.tmps r).run Try.prog w = .ok v w ∧ V1 S s.N w (rv s x) v := by
  cases r with
  | tmp t =>
    simp only [annR, Option.some.injEq] at hx
    subst hx
    exact ⟨_, rfl, V1_of_p1 h (hR.tm t)⟩
  | cell p ty =>
    simp only [annR] at hx
    split at hx
    · rename_i n ht
      injection hx with hx
      subst hx
      simp only [okR, rv] at h ⊢
      have htm := hR.tm p
      split at h
      · rename_i b v o hb
        rw [hb] at htm
        obtain ⟨_, g, h2, h3⟩ := htm
        have hn := (tsz_ok ht).2.2.2
        have hne : (s.M b).2 ≠ [] := by
          intro e
          have := h.2
          rw [e] at this
          simp at this
          omega
        obtain ⟨_, _, cells, ty', hc, hf⟩ := hR.loc b hne
        have hlen := F2.length hf
        have hvl : ((cells.toList.drop o).take n).length = n := by
          have := h.2
          simp at hlen ⊢
          omega
        have hg := h3 h.1
        subst hg
        have e := run_loadVar (w := w) ht (ad := ⟨L b, o, none⟩) hvl (fun j u hj => by
          have hjn : j < n := by
            rcases Nat.lt_or_ge j n with h | h
            · exact h
            · rw [List.getElem?_eq_none (by omega)] at hj; cases hj
          rw [List.getElem?_take_of_lt hjn, List.getElem?_drop] at hj
          rw [Addr_add, cellAt hc]
          simpa using hj)
        refine ⟨.agg ((cells.toList.drop o).take n).toArray, ?_, ?_⟩
        · show (resF a.tmps (.cell p ty)).run Try.prog w = _
          simp only [resF]
          rw [h2]
          simpa [asAddr, mkV] using e
        · exact ⟨_, rfl, F2.take n (F2.drop o hf)⟩
      · exact h.elim
    · cases hx
theorem resL_ok (hR : Rel B nt w0 S0 s S L a w) : ∀ {rs : List ResultVar} {xs : List AR}, annRs rs = some xs → okRs s xs → ∃ vs, (rs.mapM (resF a.tmps)).run Try.prog w = .ok vs w ∧ F2 (V1 S s.N w) (xs.map (rv s)) vs
  | [], xs, hx, h => by
    simp only [annRs, Option.some.injEq] at hx
    subst hx
    exact ⟨[], rfl, trivial⟩
  | r :: rs, xs, hx, h => by
    simp only [annRs] at hx
    split at hx
    · rename_i x l h1 h2
      injection hx with hx
      subst hx
      obtain ⟨v, e1, e2⟩ := res1_ok hR h1 h.1
      obtain ⟨vs, e3, e4⟩ := resL_ok hR h2 h.2
      refine ⟨v :: vs, ?_, e2, e4⟩
      simp [List.mapM_cons, Sem.run_bind, e1, e3]
    · cases hx
theorem resf_eq (fn : Func) (tmps : Array Value) : results fn tmps = (do let vs ← fn.results.mapM (resF tmps); pure (if h : vs.size = 1 then vs[0] else .tuple vs)) := by
  unfold results
  congr 1
theorem res_ok (hR : Rel B nt w0 S0 s S L a w) {fn : Func} {xs : List AR} (hx : annRs fn.results.toList = some xs) (h : okRs s xs) : ∃ v, (results fn a.tmps).run Try.prog w = .ok v w ∧ V2 S s.N w (finR s xs) v := by
  obtain ⟨vs, e1, e2⟩ := resL_ok hR hx h
  have e3 : (fn.results.mapM (resF a.tmps)).run Try.prog w = .ok vs.toArray w := by
    rw [Array.mapM_eq_mapM_toList]
    simp [e1]
  rw [resf_eq]
  simp only [Sem.run_bind, e3, Result.andThen_ok]
  have hlen := F2.length e2
  match xs, vs, e2, hlen with
  | [x], [v], e2, _ => exact ⟨v, by simp, V2_of_V1 e2.1⟩
  | [], [], _, _ => exact ⟨.tuple #[], by simp, [], rfl, trivial⟩
  | x :: y :: xs, v :: u :: vs, e2, _ => exact ⟨.tuple (v :: u :: vs).toArray, by simp, _, rfl, e2⟩
end
def Go0 (l : List AV) (N : Nat) : AS := ⟨fun t => l.getD t .undef, fun _ => (0, []), N⟩
theorem F2.getD {S : Nat → Prop} {N : Nat} {w : World} : ∀ {l : List AV} {vs : List Value} (t : Nat), F2 (V2 S N w) l vs → V2 S N w (l.getD t .undef) (vs.getD t Go.undef)
  | [], [], t, _ => by simp [List.getD]; rfl
  | x :: l, v :: vs, 0, h => h.1
  | x :: l, v :: vs, t + 1, h => by simpa [List.getD] using F2.getD t h.2
  | [], _ :: _, _, h => h.elim
  | _ :: _, [], _, h => h.elim
/-- A function's contract, by the typed machine. -/
theorem fn_sound {B : Base} {f : Nat} {Γ : Ctx} {sp : Spec} {fn : Func} {c : Code} {p : ACode} {rs : List AR} (hΓ : COk B Γ) (hf : Try.prog.funcs[f]? = some fn) (hcall : ∀ (args : Array Value) (w : World), (callFunc f args).run Try.prog w = .ok (.enter f args) w) (hb : fn.body = some c) (hp : ann fn.ntmps c = some p) (hr : annRs fn.results.toList = some rs) (hl : ∀ l N, sp.pre l N → l.length ≤ fn.ntmps) (h : ∀ l N, sp.pre l N → 16 ≤ N → awp Γ p (fin sp l N rs) (Go0 l N)) : Sound B f sp := by
  refine ⟨hcall, fun l N S w vs hpre hN hB hvs hW => ?_⟩
  refine calls_of_wp hf hb ?_
  have hlen : vs.size = l.length := by have := F2.length hvs; simpa using this.symm
  have hnt := hl l N hpre
  have hR : Rel B fn.ntmps w S (Go0 l N) S (fun _ => 0) { tmps := vs ++ Array.replicate (fn.ntmps - vs.size) Go.undef, defers := [] } w := {
    defers := rfl
    size := by simp; omega
    out := Out.refl S w
    wt := hW
    tm := fun t => by
      have h1 := F2.getD t hvs
      have h2 : (vs ++ Array.replicate (fn.ntmps - vs.size) Go.undef).getD t Go.undef = vs.toList.getD t Go.undef := by
        rw [Array.getD_eq_getD_getElem?, List.getD_eq_getElem?_getD, Array.getElem?_append]
        by_cases ht : t < vs.size
        · rw [if_pos ht]; simp
        · rw [if_neg ht]
          have : vs.toList[t]? = none := List.getElem?_eq_none (by simpa using ht)
          rw [this]
          by_cases h3 : t - vs.size < fn.ntmps - vs.size <;> simp [Array.getElem?_replicate, h3]
      show V3 _ _ _ _ _ (l.getD t .undef) _
      rw [h2]
      exact V3_of_V2 h1
    loc := fun b hb => absurd rfl hb
    inj := fun b b' hb => absurd rfl hb
    big := hN
    base := ⟨hB.out, hB.n⟩ }
  refine wp_mono (awp_ok hΓ c hp hR (h l N hpre hN)) ?_
  rintro e a' w' ⟨ae, s', S', L', hx, hq, hR'⟩
  have key : okRs s' rs ∧ N ≤ s'.N ∧ sp.post l N (finR s' rs) s'.N → a'.defers = [] ∧ ∃ v, (results fn a'.tmps).run Try.prog w' = .ok v w' ∧ ∃ v' r N' S', (Ending.returned v = .returned v') ∧ sp.post l N r N' ∧ N ≤ N' ∧ V2 S' N' w' r v' ∧ WT S' N' w' B ∧ Out S w S' w' := by
    rintro ⟨h1, h3, h2⟩
    obtain ⟨v, e1, e2⟩ := res_ok hR' hr h1
    exact ⟨hR'.defers, v, e1, v, _, s'.N, S', rfl, h2, h3, e2, hR'.wt, hR'.out⟩
  cases ae <;> cases e <;> first
    | exact hx.elim
    | exact hq.elim
    | exact key hq
end Go.Proofs.Ytipfdcmjcelbiaa.Safe
end

section
/-! ## S14: The typed machine's run with its rest kept as data: one rule a shape; no conditions. -/
set_option linter.unusedVariables false
set_option linter.unusedSimpArgs false
namespace Go.Proofs.Ytipfdcmjcelbiaa.Safe
open Go Go.RowKit

theorem wr {x : Int} (h1 : -9223372036854775808 ≤ x) (h2 : x ≤ 9223372036854775807) : wrap64 x = x := by unfold wrap64; omega
inductive Fr where
  | sq (b : ACode) | bk (id : Nat) | lp (R : AS → Prop)
def kont (Γ : Ctx) : List Fr → (AExit → AS → Prop) → AExit → AS → Prop
  | [], Q, e, s => Q e s
  | .sq b :: ks, Q, .norm, s => awp Γ b (kont Γ ks Q) s
  | .sq b :: ks, Q, .exit i, s => kont Γ ks Q (.exit i) s
  | .sq b :: ks, Q, .ret, s => kont Γ ks Q .ret s
  | .bk id :: ks, Q, .norm, s => kont Γ ks Q .norm s
  | .bk id :: ks, Q, .exit i, s => if i = id then kont Γ ks Q .norm s else kont Γ ks Q (.exit i) s
  | .bk id :: ks, Q, .ret, s => kont Γ ks Q .ret s
  | .lp R :: ks, Q, .norm, s => R s
  | .lp R :: ks, Q, .exit i, s => kont Γ ks Q (.exit i) s
  | .lp R :: ks, Q, .ret, s => kont Γ ks Q .ret s
def Run (Γ : Ctx) (c : ACode) (ks : List Fr) (Q : AExit → AS → Prop) (s : AS) : Prop := awp Γ c (kont Γ ks Q) s
def Ro (Γ : Ctx) (l : List AOper) (ks : List Fr) (Q : AExit → AS → Prop) (s : AS) : Prop := aops Γ l s (kont Γ ks Q .norm)
def St (Γ : Ctx) (D : Den) (d : Option Nat) (s : AS) (r : List AOper) (ks : List Fr) (Q : AExit → AS → Prop) : Prop := runD D d s (fun s' => Ro Γ r ks Q s')
def Gd (Γ : Ctx) (v : AV) (g : Nat) (want : Bool) (o : AOp) (d : Option Nat) (s : AS) (r : List AOper) (ks : List Fr) (Q : AExit → AS → Prop) : Prop :=
  match v with
  | .bool b => (b = want → St Γ (den Γ (d.getD 0) ⟨upd s.T g (.bool want), s.M, s.N⟩ o) d ⟨upd s.T g (.bool want), s.M, s.N⟩ r ks Q) ∧ (b = !want → Ro Γ r ks Q ⟨putA (upd s.T g (.bool (!want))) d .undef, s.M, s.N⟩)
  | .undef => Ro Γ r ks Q ⟨putA s.T d .undef, s.M, s.N⟩
  | _ => False
def Cd (Γ : Ctx) (v : AV) (c : X) (a b : ACode) (ks : List Fr) (Q : AExit → AS → Prop) (s : AS) : Prop :=
  match v with
  | .bool t => (t = true → Run Γ a ks Q ⟨setB s.T c true, s.M, s.N⟩) ∧ (t = false → Run Γ b ks Q ⟨setB s.T c false, s.M, s.N⟩)
  | _ => False
section
variable {Γ : Ctx} {ks : List Fr} {Q : AExit → AS → Prop} {s : AS} {T : Nat → AV} {M : Nat → Nat × List AV} {N : Nat}
theorem R_skip : Run Γ .skip ks Q s = kont Γ ks Q .norm s := (rfl)
theorem R_ops (l : List AOper) : Run Γ (.ops l) ks Q s = Ro Γ l ks Q s := (rfl)
theorem R_seq (a b : ACode) : Run Γ (.seq a b) ks Q s = Run Γ a (.sq b :: ks) Q s := by
  unfold Run
  simp only [awp]
  congr 1
  funext e s'
  cases e <;> rfl
theorem R_cond (c : X) (a b : ACode) : Run Γ (.cond c a b) ks Q s = Cd Γ (ev s.T c) c a b ks Q s := by
  simp only [Run, Cd, awp]
  cases ev s.T c <;> rfl
theorem R_blk (id : Nat) (a : ACode) : Run Γ (.blk id a) ks Q s = Run Γ a (.bk id :: ks) Q s := by
  unfold Run
  simp only [awp]
  congr 1
  funext e s'
  cases e <;> rfl
theorem R_exit (i : Nat) : Run Γ (.exit i) ks Q s = kont Γ ks Q (.exit i) s := (rfl)
theorem R_ret : Run Γ .ret ks Q s = kont Γ ks Q .ret s := (rfl)
theorem K_nil (e : AExit) : kont Γ [] Q e s = Q e s := by cases e <;> rfl
theorem K_sqn (b : ACode) : kont Γ (.sq b :: ks) Q .norm s = Run Γ b ks Q s := (rfl)
theorem K_sqe (b : ACode) (i : Nat) : kont Γ (.sq b :: ks) Q (.exit i) s = kont Γ ks Q (.exit i) s := (rfl)
theorem K_sqr (b : ACode) : kont Γ (.sq b :: ks) Q .ret s = kont Γ ks Q .ret s := (rfl)
theorem K_bkn (i : Nat) : kont Γ (.bk i :: ks) Q .norm s = kont Γ ks Q .norm s := (rfl)
theorem K_bke (i j : Nat) : kont Γ (.bk j :: ks) Q (.exit i) s = if i = j then kont Γ ks Q .norm s else kont Γ ks Q (.exit i) s := (rfl)
theorem K_bkr (i : Nat) : kont Γ (.bk i :: ks) Q .ret s = kont Γ ks Q .ret s := (rfl)
theorem K_lpn (R : AS → Prop) : kont Γ (.lp R :: ks) Q .norm s = R s := (rfl)
theorem K_lpe (R : AS → Prop) (i : Nat) : kont Γ (.lp R :: ks) Q (.exit i) s = kont Γ ks Q (.exit i) s := (rfl)
theorem K_lpr (R : AS → Prop) : kont Γ (.lp R :: ks) Q .ret s = kont Γ ks Q .ret s := (rfl)
theorem Ro_nil : Ro Γ [] ks Q s = kont Γ ks Q .norm s := (rfl)
theorem O_mv (t : Nat) (x : X) (r : List AOper) : Ro Γ (⟨some t, none, .mv x⟩ :: r) ks Q ⟨T, M, N⟩ = Ro Γ r ks Q ⟨upd T t (ev T x), M, N⟩ := by
  simp [Ro, aops, astep, den, runD, putA, memA]
theorem O_pick (d : Option Nat) (c a b : X) (r : List AOper) : Ro Γ (⟨d, none, .pick c a b⟩ :: r) ks Q ⟨T, M, N⟩ = St Γ (match ev T c with | .bool t => .ne True (fun r => r = cond t (ev T a) (ev T b)) none | _ => .bad) d ⟨T, M, N⟩ r ks Q := (rfl)
theorem O_new (t : Nat) (z : List AV) (r : List AOper) : Ro Γ (⟨some t, none, .new z⟩ :: r) ks Q ⟨T, M, N⟩ = Ro Γ r ks Q ⟨upd T t (.ptr t ((M t).1 + 1) 0), upd M t ((M t).1 + 1, z), N⟩ := by
  simp [Ro, aops, astep, den, runD, putA, memA]
theorem O_box (t : Nat) (x : X) (r : List AOper) : Ro Γ (⟨some t, none, .box x⟩ :: r) ks Q ⟨T, M, N⟩ = St Γ (match cellsA (ev T x) with | some l => .ne True (fun r => r = .ptr t ((M t).1 + 1) 0) (some (t, (M t).1 + 1, l)) | none => .bad) (some t) ⟨T, M, N⟩ r ks Q := (rfl)
theorem O_build (d : Option Nat) (z : List AV) (ps : List (Nat × Nat × X)) (r : List AOper) : Ro Γ (⟨d, none, .build z ps⟩ :: r) ks Q ⟨T, M, N⟩ = St Γ (match fillA T z ps with | some l => .ne True (fun r => r = .agg l) none | none => .bad) d ⟨T, M, N⟩ r ks Q := (rfl)
theorem O_bsl (d : Option Nat) (e : Nat) (ps : List X) (r : List AOper) : Ro Γ (⟨d, none, .bsl e ps⟩ :: r) ks Q ⟨T, M, N⟩ = St Γ (.ne (allC T e ps ∧ ps.length ≤ 16) (fun r => r = .sl e ps.length) none) d ⟨T, M, N⟩ r ks Q := (rfl)
theorem O_ld (d : Option Nat) (n : Nat) (ag fl : Bool) (al : List Nat) (x : X) (r : List AOper) : Ro Γ (⟨d, none, .ld n ag fl al x⟩ :: r) ks Q ⟨T, M, N⟩ = St Γ (ldD Γ.m ⟨T, M, N⟩ n ag fl al (ev T x)) d ⟨T, M, N⟩ r ks Q := (rfl)
theorem O_st (d : Option Nat) (n : Nat) (x v : X) (r : List AOper) : Ro Γ (⟨d, none, .st n x v⟩ :: r) ks Q ⟨T, M, N⟩ = St Γ (stD ⟨T, M, N⟩ n (ev T x) (cellsA (ev T v))) d ⟨T, M, N⟩ r ks Q := (rfl)
theorem O_fa (d : Option Nat) (k : Nat) (x : X) (r : List AOper) : Ro Γ (⟨d, none, .fa k x⟩ :: r) ks Q ⟨T, M, N⟩ = St Γ (match ev T x with | .ptr b v o => .ne True (fun r => r = .ptr b v (o + k)) none | .row e o => .ne (o + k < esz e) (fun r => r = .row e (o + k)) none | .lit v => faL k v | _ => .bad) d ⟨T, M, N⟩ r ks Q := (rfl)
theorem O_ia (d : Option Nat) (e : Nat) (x i : X) (r : List AOper) : Ro Γ (⟨d, none, .ia e x i⟩ :: r) ks Q ⟨T, M, N⟩ = St Γ (match ev T x, ev T i with | .sl e' n, .int k => .ne (e' = e ∧ 0 ≤ k ∧ k < (n : Int)) (fun r => r = .row e 0) none | .osl b v n, .int k => .ne (e = 3 ∧ 0 ≤ k ∧ k < (n : Int)) (fun r => r = .optr b v n) none | .lit v, .int k => iaL e k v | _, _ => .bad) d ⟨T, M, N⟩ r ks Q := (rfl)
theorem O_tab (t : Nat) (ps : List X) (r : List AOper) : Ro Γ (⟨some t, none, .tab ps⟩ :: r) ks Q ⟨T, M, N⟩ = St Γ (match tabL T ps with | some l => .ne (l.length ≤ 16 ∧ 0 < l.length) (fun r => r = .osl t ((M t).1 + 1) l.length) (some (t, (M t).1 + 1, l)) | none => .bad) (some t) ⟨T, M, N⟩ r ks Q := (rfl)
theorem O_bin (d : Option Nat) (op : BinOp) (t : Nat) (x y : X) (r : List AOper) : Ro Γ (⟨d, none, .bin op t x y⟩ :: r) ks Q ⟨T, M, N⟩ = St Γ (binD op t (ev T x) (ev T y)) d ⟨T, M, N⟩ r ks Q := (rfl)
theorem O_un (d : Option Nat) (op : UnOp) (x : X) (r : List AOper) : Ro Γ (⟨d, none, .un op x⟩ :: r) ks Q ⟨T, M, N⟩ = St Γ (unD op (ev T x)) d ⟨T, M, N⟩ r ks Q := (rfl)
theorem O_cvt (d : Option Nat) (x : X) (r : List AOper) : Ro Γ (⟨d, none, .cvt x⟩ :: r) ks Q ⟨T, M, N⟩ = St Γ (match ev T x with | .byte b => .ne True (fun r => r = .int (wrap64 b)) none | _ => .bad) d ⟨T, M, N⟩ r ks Q := (rfl)
theorem O_ext (d : Option Nat) (k : Nat) (x : X) (r : List AOper) : Ro Γ (⟨d, none, .ext k x⟩ :: r) ks Q ⟨T, M, N⟩ = St Γ (match ev T x with | .tup l => (match l[k]? with | some v => .ne True (fun r => r = v) none | none => .bad) | _ => .bad) d ⟨T, M, N⟩ r ks Q := (rfl)
theorem O_fld (d : Option Nat) (off n : Nat) (ag : Bool) (x : X) (r : List AOper) : Ro Γ (⟨d, none, .fld off n ag x⟩ :: r) ks Q ⟨T, M, N⟩ = St Γ (match ev T x with | .agg l => .ne (off + n ≤ l.length ∧ 0 < n) (fun r => r = mk ag ((l.drop off).take n)) none | _ => .bad) d ⟨T, M, N⟩ r ks Q := (rfl)
theorem O_slc (d : Option Nat) (e : Nat) (x : X) (lo hi : Option X) (r : List AOper) : Ro Γ (⟨d, none, .slc e x lo hi⟩ :: r) ks Q ⟨T, M, N⟩ = St Γ (match ev T x with | .sl e' n => (match bnd T lo 0, bnd T hi n with | some l, some h => slcD e e' n l h | _, _ => .bad) | _ => .bad) d ⟨T, M, N⟩ r ks Q := (rfl)
theorem O_lenf (d : Option Nat) (x : X) (r : List AOper) : Ro Γ (⟨d, none, .len false x⟩ :: r) ks Q ⟨T, M, N⟩ = St Γ (match ev T x with | .sl e n => .ne True (fun r => r = .int (n : Int)) none | .lit v => lenL v | _ => .bad) d ⟨T, M, N⟩ r ks Q := by
  simp only [Ro, aops, astep, den, St]
  cases ev T x <;> rfl
theorem O_lent (d : Option Nat) (x : X) (r : List AOper) : Ro Γ (⟨d, none, .len true x⟩ :: r) ks Q ⟨T, M, N⟩ = St Γ (match ev T x with | .str n => .ne True (fun r => r = .int (n : Int)) none | _ => .bad) d ⟨T, M, N⟩ r ks Q := by
  simp only [Ro, aops, astep, den, St]
  cases ev T x <;> rfl
theorem O_app (d : Option Nat) (e : Nat) (x y : X) (r : List AOper) : Ro Γ (⟨d, none, .app e x y⟩ :: r) ks Q ⟨T, M, N⟩ = St Γ (match ev T x, ev T y with | .sl e1 n, .sl e2 m => .ev (e1 = e ∧ e2 = e ∧ n + m ≤ LIM) (fun r N' => r = .sl e (n + m) ∧ N' = Nat.max N (n + m)) | _, _ => .bad) d ⟨T, M, N⟩ r ks Q := (rfl)
theorem O_idx (d : Option Nat) (x i : X) (r : List AOper) : Ro Γ (⟨d, none, .idx x i⟩ :: r) ks Q ⟨T, M, N⟩ = St Γ (match ev T x, ev T i with | .str n, .int k => .ne (0 ≤ k ∧ k < (n : Int)) (fun r => ∃ b : Int, 0 ≤ b ∧ b < 256 ∧ r = .byte b) none | _, _ => .bad) d ⟨T, M, N⟩ r ks Q := (rfl)
theorem Ro_gd (d : Option Nat) (g : Nat) (w : Bool) (o : AOp) (r : List AOper) : Ro Γ (⟨d, some (g, w), o⟩ :: r) ks Q ⟨T, M, N⟩ = Gd Γ (T g) g w o d ⟨T, M, N⟩ r ks Q := by
  simp only [Ro, Gd, aops, astep, St]
  cases T g <;> rfl
theorem G_b (b : Bool) (g : Nat) (want : Bool) (o : AOp) (d : Option Nat) (r : List AOper) : Gd Γ (.bool b) g want o d ⟨T, M, N⟩ r ks Q = ((b = want → Ro Γ (⟨d, none, o⟩ :: r) ks Q ⟨upd T g (.bool want), M, N⟩) ∧ (b = !want → Ro Γ r ks Q ⟨putA (upd T g (.bool (!want))) d .undef, M, N⟩)) := (rfl)
theorem G_u (g : Nat) (want : Bool) (o : AOp) (d : Option Nat) (r : List AOper) : Gd Γ .undef g want o d ⟨T, M, N⟩ r ks Q = Ro Γ r ks Q ⟨putA T d .undef, M, N⟩ := (rfl)
theorem C_b (t : Bool) (c : X) (a b : ACode) : Cd Γ (.bool t) c a b ks Q ⟨T, M, N⟩ = ((t = true → Run Γ a ks Q ⟨setB T c true, M, N⟩) ∧ (t = false → Run Γ b ks Q ⟨setB T c false, M, N⟩)) := (rfl)
theorem S_eq (p : Prop) (v : AV) (d : Option Nat) (r : List AOper) : St Γ (.ne p (fun r => r = v) none) d ⟨T, M, N⟩ r ks Q = (p ∧ Ro Γ r ks Q ⟨putA T d v, M, N⟩) := by
  simp [St, runD, memA]
theorem S_em (p : Prop) (v : AV) (b : Nat) (c : Nat × List AV) (d : Option Nat) (r : List AOper) : St Γ (.ne p (fun r => r = v) (some (b, c))) d ⟨T, M, N⟩ r ks Q = (p ∧ Ro Γ r ks Q ⟨putA T d v, upd M b c, N⟩) := by
  simp [St, runD, memA]
theorem S_ex {α : Type} (p : Prop) (P : α → Prop) (f : α → AV) (d : Option Nat) (r : List AOper) : St Γ (.ne p (fun r => ∃ x, P x ∧ r = f x) none) d ⟨T, M, N⟩ r ks Q = (p ∧ ∀ x, P x → Ro Γ r ks Q ⟨putA T d (f x), M, N⟩) := by
  simp only [St, runD, memA, eq_iff_iff]
  exact ⟨fun h => ⟨h.1, fun x hx => h.2 _ ⟨x, hx, rfl⟩⟩, fun h => ⟨h.1, fun r ⟨x, hx, e⟩ => e ▸ h.2 x hx⟩⟩
theorem S_bool (p : Prop) (d : Option Nat) (r : List AOper) : St Γ (.ne p (fun r => ∃ b, r = .bool b) none) d ⟨T, M, N⟩ r ks Q = (p ∧ ∀ b, Ro Γ r ks Q ⟨putA T d (.bool b), M, N⟩) := by
  simp only [St, runD, memA, eq_iff_iff]
  exact ⟨fun h => ⟨h.1, fun x => h.2 _ ⟨x, rfl⟩⟩, fun h => ⟨h.1, fun r ⟨x, e⟩ => e ▸ h.2 x⟩⟩
theorem S_ev (p : Prop) (res : AV → Nat → Prop) (d : Option Nat) (r : List AOper) : St Γ (.ev p res) d ⟨T, M, N⟩ r ks Q = (p ∧ ∀ v N', res v N' → N ≤ N' → Ro Γ r ks Q ⟨putA T d v, M, N'⟩) := (rfl)
theorem S_app (p : Prop) (v : AV) (n : Nat) (d : Option Nat) (r : List AOper) : St Γ (.ev p (fun r N' => r = v ∧ N' = n)) d ⟨T, M, N⟩ r ks Q = (p ∧ (N ≤ n → Ro Γ r ks Q ⟨putA T d v, M, n⟩)) := by
  simp only [St, runD, eq_iff_iff]
  exact ⟨fun h => ⟨h.1, fun x => h.2 _ _ ⟨rfl, rfl⟩ x⟩, fun h => ⟨h.1, fun r n' ⟨e1, e2⟩ => by subst e1; subst e2; exact h.2⟩⟩
theorem S_byte (p : Prop) (d : Option Nat) (r : List AOper) : St Γ (.ne p (fun r => ∃ b : Int, 0 ≤ b ∧ b < 256 ∧ r = .byte b) none) d ⟨T, M, N⟩ r ks Q = (p ∧ ∀ b : Int, 0 ≤ b ∧ b < 256 → Ro Γ r ks Q ⟨putA T d (.byte b), M, N⟩) := by
  simp only [St, runD, memA, eq_iff_iff]
  exact ⟨fun h => ⟨h.1, fun x hx => h.2 _ ⟨x, hx.1, hx.2, rfl⟩⟩, fun h => ⟨h.1, fun r ⟨x, e1, e2, e⟩ => e ▸ h.2 x ⟨e1, e2⟩⟩⟩
/-- What is loaded of a row, cell by cell. -/
def Gk (Γ : Ctx) (N : Nat) (ag : Bool) (d : Option Nat) (T : Nat → AV) (M : Nat → Nat × List AV) (r : List AOper) (ks : List Fr) (Q : AExit → AS → Prop) : List CT → List AV → Prop
  | [], acc => Ro Γ r ks Q ⟨putA T d (mk ag acc), M, N⟩
  | .int :: ts, acc => ∀ x, Gk Γ N ag d T M r ks Q ts (acc ++ [.int x])
  | .bint :: ts, acc => ∀ x, -16777216 ≤ x ∧ x ≤ 16777216 → Gk Γ N ag d T M r ks Q ts (acc ++ [.int x])
  | .pint :: ts, acc => ∀ x, -1 ≤ x ∧ x ≤ 4 → Gk Γ N ag d T M r ks Q ts (acc ++ [.int x])
  | .byte :: ts, acc => ∀ x, Gk Γ N ag d T M r ks Q ts (acc ++ [.byte x])
  | .bool :: ts, acc => ∀ x, Gk Γ N ag d T M r ks Q ts (acc ++ [.bool x])
  | .str :: ts, acc => ∀ x, x ≤ 1000 → Gk Γ N ag d T M r ks Q ts (acc ++ [.str x])
  | .sl e :: ts, acc => ∀ n, n ≤ N → Gk Γ N ag d T M r ks Q ts (acc ++ [.sl e n])
theorem Gk_ok {ag : Bool} {d : Option Nat} {r : List AOper} : ∀ (ts : List CT) (acc : List AV), Gk Γ N ag d T M r ks Q ts acc → ∀ l, gen N ts l → Ro Γ r ks Q ⟨putA T d (mk ag (acc ++ l)), M, N⟩
  | [], acc, h, l, hl => by
    obtain rfl : l = [] := hl
    simpa [Gk] using h
  | t :: ts, acc, h, l, hl => by
    cases t with
    | bint => obtain ⟨x, l', hb, rfl, hl⟩ := hl; simpa using Gk_ok ts _ (h x hb) l' hl
    | str => obtain ⟨x, l', hb, rfl, hl⟩ := hl; simpa using Gk_ok ts _ (h x hb) l' hl
    | pint => obtain ⟨x, l', hb, rfl, hl⟩ := hl; simpa using Gk_ok ts _ (h x hb) l' hl
    | sl e => obtain ⟨n, l', hn, rfl, hl⟩ := hl; simpa using Gk_ok ts _ (h n hn) l' hl
    | _ => obtain ⟨x, l', rfl, hl⟩ := hl; simpa using Gk_ok ts _ (h x) l' hl
theorem Gk_of {ag : Bool} {d : Option Nat} {r : List AOper} : ∀ (ts : List CT) (acc : List AV), (∀ l, gen N ts l → Ro Γ r ks Q ⟨putA T d (mk ag (acc ++ l)), M, N⟩) → Gk Γ N ag d T M r ks Q ts acc
  | [], acc, h => by simpa [Gk] using h [] rfl
  | t :: ts, acc, h => by
    cases t with
    | bint => exact fun x hb => Gk_of ts _ (fun l hl => by simpa using h (.int x :: l) ⟨x, l, hb, rfl, hl⟩)
    | pint => exact fun x hb => Gk_of ts _ (fun l hl => by simpa using h (.int x :: l) ⟨x, l, hb, rfl, hl⟩)
    | sl e => exact fun n hn => Gk_of ts _ (fun l hl => by simpa using h (.sl e n :: l) ⟨n, l, hn, rfl, hl⟩)
    | int => exact fun x => Gk_of ts _ (fun l hl => by simpa using h (.int x :: l) ⟨x, l, rfl, hl⟩)
    | byte => exact fun x => Gk_of ts _ (fun l hl => by simpa using h (.byte x :: l) ⟨x, l, rfl, hl⟩)
    | bool => exact fun x => Gk_of ts _ (fun l hl => by simpa using h (.bool x :: l) ⟨x, l, rfl, hl⟩)
    | str => exact fun x hb => Gk_of ts _ (fun l hl => by simpa using h (.str x :: l) ⟨x, l, hb, rfl, hl⟩)
theorem S_gen (p : Prop) (ts : List CT) (ag : Bool) (d : Option Nat) (r : List AOper) : St Γ (.ne p (fun r => ∃ l, gen N ts l ∧ r = mk ag l) none) d ⟨T, M, N⟩ r ks Q = (p ∧ Gk Γ N ag d T M r ks Q ts []) := by
  simp only [St, runD, memA, eq_iff_iff]
  exact ⟨fun h => ⟨h.1, Gk_of ts [] (fun l hl => h.2 _ ⟨l, hl, rfl⟩)⟩, fun h => ⟨h.1, fun r ⟨l, hl, e⟩ => e ▸ Gk_ok ts [] h.2 l hl⟩⟩
def Ld (Γ : Ctx) (n : Nat) (ag fl : Bool) (al : List Nat) (d : Option Nat) (T : Nat → AV) (M : Nat → Nat × List AV) (N : Nat) (r : List AOper) (ks : List Fr) (Q : AExit → AS → Prop) : AV → Prop
  | .ptr b v o => (v = (M b).1 ∧ o + n ≤ (M b).2.length ∧ ¬ b ∈ al) ∧ Ro Γ r ks Q ⟨putA T d (mk ag (((M b).2.drop o).take n)), M, N⟩
  | .optr b v k => (v = (M b).1 ∧ (k = (M b).2.length ∧ 0 < k) ∧ (n = 1 ∧ ag = false) ∧ ¬ b ∈ al ∧ allI (M b).2 = true) ∧ ∀ x, inI (M b).2 x → Ro Γ r ks Q ⟨putA T d (.int x), M, N⟩
  | .row e o => (o + n ≤ esz e ∧ (fl = true ∨ nosl (((lay e).drop o).take n) = true)) ∧ Gk Γ N ag d T M r ks Q (((lay e).drop o).take n) []
  | .lit v => St Γ (ldL Γ.m n ag v) d ⟨T, M, N⟩ r ks Q
  | _ => False
theorem L_ld (d : Option Nat) (n : Nat) (ag fl : Bool) (al : List Nat) (x : X) (r : List AOper) : Ro Γ (⟨d, none, .ld n ag fl al x⟩ :: r) ks Q ⟨T, M, N⟩ = Ld Γ n ag fl al d T M N r ks Q (ev T x) := by
  rw [O_ld]
  cases ev T x <;> first | rfl | exact S_eq _ _ _ _ | exact S_gen _ _ _ _ _ | exact S_ex _ _ _ _ _
theorem L_p (n : Nat) (ag fl : Bool) (al : List Nat) (d : Option Nat) (r : List AOper) (b v o : Nat) : Ld Γ n ag fl al d T M N r ks Q (.ptr b v o) = ((v = (M b).1 ∧ o + n ≤ (M b).2.length ∧ ¬ b ∈ al) ∧ Ro Γ r ks Q ⟨putA T d (mk ag (((M b).2.drop o).take n)), M, N⟩) := (rfl)
theorem L_r (n : Nat) (ag fl : Bool) (al : List Nat) (d : Option Nat) (r : List AOper) (e o : Nat) : Ld Γ n ag fl al d T M N r ks Q (.row e o) = ((o + n ≤ esz e ∧ (fl = true ∨ nosl (((lay e).drop o).take n) = true)) ∧ Gk Γ N ag d T M r ks Q (((lay e).drop o).take n) []) := (rfl)
theorem L_o (n : Nat) (ag fl : Bool) (al : List Nat) (d : Option Nat) (r : List AOper) (b v k : Nat) : Ld Γ n ag fl al d T M N r ks Q (.optr b v k) = ((v = (M b).1 ∧ (k = (M b).2.length ∧ 0 < k) ∧ (n = 1 ∧ ag = false) ∧ ¬ b ∈ al ∧ allI (M b).2 = true) ∧ ∀ x, inI (M b).2 x → Ro Γ r ks Q ⟨putA T d (.int x), M, N⟩) := (rfl)
theorem L_l (n : Nat) (ag fl : Bool) (al : List Nat) (d : Option Nat) (r : List AOper) (v : Value) : Ld Γ n ag fl al d T M N r ks Q (.lit v) = St Γ (ldL Γ.m n ag v) d ⟨T, M, N⟩ r ks Q := (rfl)
theorem S_lp (n : Nat) (ag : Bool) (ad : Addr) (l : List AV) (d : Option Nat) (r : List AOper) (h : Γ.m ad n = some l) : St Γ (ldL Γ.m n ag (.pointer (some ad))) d ⟨T, M, N⟩ r ks Q = Ro Γ r ks Q ⟨putA T d (mk ag l), M, N⟩ := by
  have e : ldL Γ.m n ag (.pointer (some ad)) = .ne True (fun r => r = mk ag l) none := by simp only [ldL, h]
  rw [e, S_eq]
  simp
theorem mk_t (l : List AV) : mk true l = .agg l := (rfl)
theorem mk_f (a : AV) (l : List AV) : mk false (a :: l) = a := (rfl)
theorem L_app (d : Option Nat) (e : Nat) (x y : X) (r : List AOper) : Ro Γ (⟨d, none, .app e x y⟩ :: r) ks Q ⟨T, M, N⟩ = (match ev T x, ev T y with | .sl e1 n, .sl e2 m => (e1 = e ∧ e2 = e ∧ n + m ≤ LIM) ∧ Ro Γ r ks Q ⟨putA T d (.sl e (n + m)), M, max N (n + m)⟩ | _, _ => False) := by
  rw [O_app]
  cases ev T x <;> try rfl
  cases ev T y <;> try rfl
  rename_i e1 n e2 m
  simp only
  rw [S_app]
  have : Nat.max N (n + m) = max N (n + m) := rfl
  rw [this]
  exact propext ⟨fun h => ⟨h.1, h.2 (Nat.le_max_left _ _)⟩, fun h => ⟨h.1, fun _ => h.2⟩⟩
/-- A truth value put. -/
def Br (Γ : Ctx) (b : Bool) (d : Option Nat) (T : Nat → AV) (M : Nat → Nat × List AV) (N : Nat) (r : List AOper) (ks : List Fr) (Q : AExit → AS → Prop) : Prop := Ro Γ r ks Q ⟨putA T d (.bool b), M, N⟩
def Bn (Γ : Ctx) (op : BinOp) (t : Nat) (x y : AV) (d : Option Nat) (T : Nat → AV) (M : Nat → Nat × List AV) (N : Nat) (r : List AOper) (ks : List Fr) (Q : AExit → AS → Prop) : Prop := St Γ (binD op t x y) d ⟨T, M, N⟩ r ks Q
theorem L_bin (d : Option Nat) (op : BinOp) (t : Nat) (x y : X) (r : List AOper) : Ro Γ (⟨d, none, .bin op t x y⟩ :: r) ks Q ⟨T, M, N⟩ = Bn Γ op t (ev T x) (ev T y) d T M N r ks Q := (rfl)
section
variable (d : Option Nat) (r : List AOper) (t : Nat) (a b : Int)
theorem Br_t : Br Γ true d T M N r ks Q = Ro Γ r ks Q ⟨putA T d (.bool true), M, N⟩ := (rfl)
theorem Br_f : Br Γ false d T M N r ks Q = Ro Γ r ks Q ⟨putA T d (.bool false), M, N⟩ := (rfl)
theorem Br_d (p : Prop) [hp : Decidable p] : Br Γ (decide p) d T M N r ks Q = ((p → Ro Γ r ks Q ⟨putA T d (.bool true), M, N⟩) ∧ (¬ p → Ro Γ r ks Q ⟨putA T d (.bool false), M, N⟩)) := by
  by_cases h : p <;> simp [Br, h]
theorem n_eq (p : Prop) (v : AV) : St Γ (.ne p (fun r => r = v) none) d ⟨T, M, N⟩ r ks Q = (p ∧ Ro Γ r ks Q ⟨putA T d v, M, N⟩) := S_eq p v d r
theorem t_eq (v : AV) : St Γ (.ne True (fun r => r = v) none) d ⟨T, M, N⟩ r ks Q = Ro Γ r ks Q ⟨putA T d v, M, N⟩ := by rw [S_eq]; simp
theorem B_lss : Bn Γ .lss t (.int a) (.int b) d T M N r ks Q = Br Γ (decide (a < b)) d T M N r ks Q := t_eq d r _
theorem B_leq : Bn Γ .leq t (.int a) (.int b) d T M N r ks Q = Br Γ (decide (a ≤ b)) d T M N r ks Q := t_eq d r _
theorem B_gtr : Bn Γ .gtr t (.int a) (.int b) d T M N r ks Q = Br Γ (decide (b < a)) d T M N r ks Q := t_eq d r _
theorem B_geq : Bn Γ .geq t (.int a) (.int b) d T M N r ks Q = Br Γ (decide (b ≤ a)) d T M N r ks Q := t_eq d r _
theorem B_eql : Bn Γ .eql t (.int a) (.int b) d T M N r ks Q = Br Γ (decide (a = b)) d T M N r ks Q := t_eq d r _
theorem B_neq : Bn Γ .neq t (.int a) (.int b) d T M N r ks Q = Br Γ (decide (¬ a = b)) d T M N r ks Q := by
  have := t_eq (Γ := Γ) (ks := ks) (Q := Q) (T := T) (M := M) (N := N) d r (.bool (!decide (a = b)))
  unfold Bn Br
  rw [show binD .neq t (.int a) (.int b) = .ne True (fun r => r = .bool (!decide (a = b))) none from rfl, this]
  congr 4
  by_cases h : a = b <;> simp [h]
theorem B_add : Bn Γ .add t (.int a) (.int b) d T M N r ks Q = Ro Γ r ks Q ⟨putA T d (.int (wrap64 (a + b))), M, N⟩ := t_eq d r _
theorem B_sub : Bn Γ .sub t (.int a) (.int b) d T M N r ks Q = Ro Γ r ks Q ⟨putA T d (.int (wrap64 (a - b))), M, N⟩ := t_eq d r _
theorem B_mul : Bn Γ .mul t (.int a) (.int b) d T M N r ks Q = Ro Γ r ks Q ⟨putA T d (.int (wrap64 (a * b))), M, N⟩ := t_eq d r _
theorem B_quo : Bn Γ .quo t (.int a) (.int b) d T M N r ks Q = (b ≠ 0 ∧ Ro Γ r ks Q ⟨putA T d (.int (wrap64 (a.tdiv b))), M, N⟩) := S_eq _ _ d r
theorem B_rem : Bn Γ .rem t (.int a) (.int b) d T M N r ks Q = (b ≠ 0 ∧ Ro Γ r ks Q ⟨putA T d (.int (a.tmod b)), M, N⟩) := S_eq _ _ d r
theorem B_sadd (n m : Nat) : Bn Γ .add t (.str n) (.str m) d T M N r ks Q = (n + m ≤ 4611686018427387904 ∧ Ro Γ r ks Q ⟨putA T d (.str (n + m)), M, N⟩) := S_eq _ _ d r
theorem two (p : Prop) : St Γ (.ne p (fun r => ∃ b, r = .bool b) none) d ⟨T, M, N⟩ r ks Q = (p ∧ Ro Γ r ks Q ⟨putA T d (.bool true), M, N⟩ ∧ Ro Γ r ks Q ⟨putA T d (.bool false), M, N⟩) := by
  rw [S_bool]
  exact propext ⟨fun h => ⟨h.1, h.2 true, h.2 false⟩, fun h => ⟨h.1, fun b => by cases b; exact h.2.2; exact h.2.1⟩⟩
theorem B_seql (n m : Nat) : Bn Γ .eql t (.str n) (.str m) d T M N r ks Q = (True ∧ Ro Γ r ks Q ⟨putA T d (.bool true), M, N⟩ ∧ Ro Γ r ks Q ⟨putA T d (.bool false), M, N⟩) := two d r _
theorem B_sneq (n m : Nat) : Bn Γ .neq t (.str n) (.str m) d T M N r ks Q = (True ∧ Ro Γ r ks Q ⟨putA T d (.bool true), M, N⟩ ∧ Ro Γ r ks Q ⟨putA T d (.bool false), M, N⟩) := two d r _
theorem B_aeql (l m : List AV) : Bn Γ .eql t (.agg l) (.agg m) d T M N r ks Q = (((t = 47 ∧ l.length = 2 ∧ m.length = 2 ∨ t = 49 ∧ l.length = 6 ∧ m.length = 6) ∧ ints l = true ∧ ints m = true) ∧ Ro Γ r ks Q ⟨putA T d (.bool true), M, N⟩ ∧ Ro Γ r ks Q ⟨putA T d (.bool false), M, N⟩) := two d r _
theorem B_aneq (l m : List AV) : Bn Γ .neq t (.agg l) (.agg m) d T M N r ks Q = (((t = 47 ∧ l.length = 2 ∧ m.length = 2 ∨ t = 49 ∧ l.length = 6 ∧ m.length = 6) ∧ ints l = true ∧ ints m = true) ∧ Ro Γ r ks Q ⟨putA T d (.bool true), M, N⟩ ∧ Ro Γ r ks Q ⟨putA T d (.bool false), M, N⟩) := two d r _
theorem B_beql (x y : Bool) : Bn Γ .eql 4 (.bool x) (.bool y) d T M N r ks Q = Br Γ (x == y) d T M N r ks Q := t_eq d r _
theorem B_bneq (x y : Bool) : Bn Γ .neq 4 (.bool x) (.bool y) d T M N r ks Q = Br Γ (!(x == y)) d T M N r ks Q := t_eq d r _
variable (g : Nat) (o : AOp)
theorem G_tt : Gd Γ (.bool true) g true o d ⟨T, M, N⟩ r ks Q = Ro Γ (⟨d, none, o⟩ :: r) ks Q ⟨upd T g (.bool true), M, N⟩ := by simp [Gd]; rfl
theorem G_ff : Gd Γ (.bool false) g false o d ⟨T, M, N⟩ r ks Q = Ro Γ (⟨d, none, o⟩ :: r) ks Q ⟨upd T g (.bool false), M, N⟩ := by simp [Gd]; rfl
theorem G_tf : Gd Γ (.bool true) g false o d ⟨T, M, N⟩ r ks Q = Ro Γ r ks Q ⟨putA (upd T g (.bool true)) d .undef, M, N⟩ := by simp [Gd]
theorem G_ft : Gd Γ (.bool false) g true o d ⟨T, M, N⟩ r ks Q = Ro Γ r ks Q ⟨putA (upd T g (.bool false)) d .undef, M, N⟩ := by simp [Gd]
theorem C_t (c : X) (x y : ACode) : Cd Γ (.bool true) c x y ks Q ⟨T, M, N⟩ = Run Γ x ks Q ⟨setB T c true, M, N⟩ := by simp [Cd]
theorem C_f (c : X) (x y : ACode) : Cd Γ (.bool false) c x y ks Q ⟨T, M, N⟩ = Run Γ y ks Q ⟨setB T c false, M, N⟩ := by simp [Cd]
end
theorem S_slc (e e' n : Nat) (lo hi : Int) (d : Option Nat) (r : List AOper) : St Γ (slcD e e' n lo hi) d ⟨T, M, N⟩ r ks Q = ((e' = e ∧ 0 ≤ lo ∧ lo ≤ hi ∧ hi ≤ (n : Int)) ∧ ∀ m : Nat, (m : Int) = hi - lo → Ro Γ r ks Q ⟨putA T d (.sl e m), M, N⟩) := by
  unfold slcD
  rw [S_eq]
  refine propext ⟨fun h => ⟨h.1, fun m hm => ?_⟩, fun h => ⟨h.1, h.2 _ (by have := h.1; omega)⟩⟩
  obtain rfl : m = (hi - lo).toNat := by have := h.1; omega
  exact h.2
theorem S_bad (d : Option Nat) (r : List AOper) : St Γ .bad d ⟨T, M, N⟩ r ks Q = False := (rfl)
theorem U_at (i : Nat) (v : AV) (j : Nat) : upd T i v j = if j = i then v else T j := (rfl)
theorem U_am (i : Nat) (v : Nat × List AV) (j : Nat) : upd M i v j = if j = i then v else M j := (rfl)
theorem P_s (t : Nat) (v : AV) : putA T (some t) v = upd T t v := (rfl)
theorem P_n (v : AV) : putA T none v = T := (rfl)
theorem B_t (n : Nat) (b : Bool) : setB T (.t n) b = upd T n (.bool b) := (rfl)
theorem E_t (n : Nat) : ev T (.t n) = T n := (rfl)
theorem E_c (v : AV) : ev T (.c v) = v := (rfl)
end
/-! ### struct values, by their parts -/
def vD (x : Int × Int) : AV := .agg [.int x.1, .int x.2]
def vS (x : Int × Int × Int) : AV := .agg [.int x.1, .int x.2.1, .int x.2.2]
def vA (x : Int × Int × Int × Int × Int × Int) : AV := .agg [.int x.1, .int x.2.1, .int x.2.2.1, .int x.2.2.2.1, .int x.2.2.2.2.1, .int x.2.2.2.2.2]
def vT (x : Int × Int × Int × Int × Int × Int × Int × Int × Int × Int × Nat) : AV := .agg [.int x.1, .int x.2.1, .int x.2.2.1, .int x.2.2.2.1, .int x.2.2.2.2.1, .int x.2.2.2.2.2.1, .int x.2.2.2.2.2.2.1, .int x.2.2.2.2.2.2.2.1, .int x.2.2.2.2.2.2.2.2.1, .int x.2.2.2.2.2.2.2.2.2.1, .sl 47 x.2.2.2.2.2.2.2.2.2.2]
def vB (x : Int × Int × Nat × Int × Nat × Nat) : AV := .agg [.int x.1, .int x.2.1, .sl 52 x.2.2.1, .int x.2.2.2.1, .sl 41 x.2.2.2.2.1, .sl 4 x.2.2.2.2.2]
def vQ (x : Int × Int × Int × Int × Int × Int × Int × Nat) : AV := .agg [.int x.1, .int x.2.1, .int x.2.2.1, .int x.2.2.2.1, .int x.2.2.2.2.1, .int x.2.2.2.2.2.1, .int x.2.2.2.2.2.2.1, .sl 49 x.2.2.2.2.2.2.2]
def vL (x : Int × Int × Int × Int × Int × Int × Int × Nat × Int) : AV := .agg [.int x.1, .int x.2.1, .int x.2.2.1, .int x.2.2.2.1, .int x.2.2.2.2.1, .int x.2.2.2.2.2.1, .int x.2.2.2.2.2.2.1, .sl 49 x.2.2.2.2.2.2.2.1, .int x.2.2.2.2.2.2.2.2]
def vH (x : Nat × Nat × Nat) : AV := .agg [.sl 3 x.1, .sl 125 x.2.1, .sl 27 x.2.2]
def vC (x : Nat × Int) : AV := .agg [.sl 49 x.1, .int x.2]
/-- A contract, by what its results are. -/
def mkS {α : Type} (pre : List AV → Nat → Prop) (P : List AV → Nat → α → Prop) (f : α → AV) (g : List AV → Nat → α → Nat) (h : ∀ l N, pre l N → ∃ x, P l N x ∧ N ≤ g l N x) : Spec where
  pre := pre
  post l N r N' := ∃ x, P l N x ∧ r = f x ∧ N' = g l N x
  ne l N hp := by
    obtain ⟨x, h1, h2⟩ := h l N hp
    exact ⟨_, _, h2, x, h1, rfl, rfl⟩
theorem O_call {Γ : Ctx} {ks : List Fr} {Q : AExit → AS → Prop} {T : Nat → AV} {M : Nat → Nat × List AV} {N : Nat} {α : Type} {pre : List AV → Nat → Prop} {P : List AV → Nat → α → Prop} {f' : α → AV} {g : List AV → Nat → α → Nat} {h : ∀ l N, pre l N → ∃ x, P l N x ∧ N ≤ g l N x} {f : Nat} (hf : Γ.f f = some (mkS pre P f' g h)) (d : Option Nat) (ps : List X) (r : List AOper) : Ro Γ (⟨d, none, .call f ps⟩ :: r) ks Q ⟨T, M, N⟩ = ((pre (ps.map (ev T)) N ∧ pasl (ps.map (ev T)) = true) ∧ ∀ x, P (ps.map (ev T)) N x → N ≤ g (ps.map (ev T)) N x → Ro Γ r ks Q ⟨putA T d (f' x), M, g (ps.map (ev T)) N x⟩) := by
  simp only [Ro, aops, astep, den, hf, runD, eq_iff_iff, mkS]
  exact ⟨fun hh => ⟨hh.1, fun x hx hn => hh.2 _ _ ⟨x, hx, rfl, rfl⟩ hn⟩, fun hh => ⟨hh.1, fun r n ⟨x, hx, e1, e2⟩ hn => by subst e1; subst e2; exact hh.2 x hx hn⟩⟩
def lkF : List (Nat × Spec) → Nat → Option Spec
  | [], _ => none
  | (f, sp) :: l, g => if g = f then some sp else lkF l g
def lkG (l : List (Nat × Spec)) : Ctx := ⟨lkF l, fun _ _ => none⟩
def lkM (l : List (Nat × Spec)) (m : Addr → Nat → Option (List AV)) : Ctx := ⟨lkF l, m⟩
def Good (B : Base) : List (Nat × Spec) → Prop
  | [] => True
  | p :: l => Sound B p.1 p.2 ∧ Good B l
theorem Good.all {B : Base} : ∀ {l : List (Nat × Spec)}, Good B l → ∀ f sp, lkF l f = some sp → Sound B f sp
  | [], _, _, _, h => by cases h
  | p :: l, hg, f, sp, h => by
    simp only [lkF] at h
    split at h
    · rename_i e
      injection h with h
      subst e; subst h
      exact hg.1
    · exact Good.all hg.2 f sp h
theorem Good.ok {B : Base} {l : List (Nat × Spec)} (h : Good B l) : COk B (lkG l) := ⟨h.all, fun _ _ _ _ _ _ _ h => by cases h⟩
def finS {α : Type} (P : List AV → Nat → α → Prop) (f : α → AV) (g : List AV → Nat → α → Nat) (l : List AV) (N : Nat) (rs : List AR) (e : AExit) (s : AS) : Prop :=
  match e with
  | .exit _ => False
  | _ => okRs s rs ∧ N ≤ s.N ∧ ∃ x, P l N x ∧ finR s rs = f x ∧ s.N = g l N x
theorem fnS {B : Base} {f : Nat} {G : List (Nat × Spec)} {α : Type} {pre : List AV → Nat → Prop} {P : List AV → Nat → α → Prop} {f' : α → AV} {g : List AV → Nat → α → Nat} {hh : ∀ l N, pre l N → ∃ x, P l N x ∧ N ≤ g l N x} (fn : Func) (p : ACode) (rs : List AR) (hG : Good B G) (hf : Try.prog.funcs[f]? = some fn) (hcall : ∀ (args : Array Value) (w : World), (callFunc f args).run Try.prog w = .ok (.enter f args) w) (hp : fn.body.bind (ann fn.ntmps) = some p) (hr : annRs fn.results.toList = some rs) (hl : ∀ l N, pre l N → l.length ≤ fn.ntmps) (h : ∀ l N, pre l N → 16 ≤ N → Run (lkG G) p [] (finS P f' g l N rs) (Go0 l N)) : Sound B f (mkS pre P f' g hh) := by
  obtain ⟨c, hb, hp⟩ := Option.bind_eq_some_iff.1 hp
  refine fn_sound hG.ok hf hcall hb hp hr hl (fun l N h1 h2 => awp_mono p ?_ (h l N h1 h2))
  intro e s he
  cases e with
  | exit i => exact he.elim
  | norm => exact ⟨he.1, he.2.1, let ⟨x, h1, h2, h3⟩ := he.2.2; ⟨x, h1, h2, h3⟩⟩
  | ret => exact ⟨he.1, he.2.1, let ⟨x, h1, h2, h3⟩ := he.2.2; ⟨x, h1, h2, h3⟩⟩
/-- What a list says of variables. -/
def Has {α : Type} : List (Nat × α) → (Nat → α) → Prop
  | [], _ => True
  | p :: l, T => T p.1 = p.2 ∧ Has l T
def over {α : Type} : List (Nat × α) → (Nat → α) → Nat → α
  | [], T => T
  | p :: l, T => upd (over l T) p.1 p.2
theorem hn {α : Type} {T : Nat → α} : Has [] T := trivial
theorem hc {α : Type} {t : Nat} {v : α} {l : List (Nat × α)} {T : Nat → α} (h : T t = v) (k : Has l T) : Has ((t, v) :: l) T := ⟨h, k⟩
theorem over_nil {α : Type} (T : Nat → α) : over [] T = T := (rfl)
theorem over_cons {α : Type} (p : Nat × α) (l : List (Nat × α)) (T : Nat → α) : over (p :: l) T = upd (over l T) p.1 p.2 := (rfl)
theorem Has.over {α : Type} : ∀ {l : List (Nat × α)} {T : Nat → α}, Has l T → over l T = T
  | [], _, _ => rfl
  | p :: l, T, h => by
    show upd (Safe.over l T) p.1 p.2 = T
    rw [Has.over h.2]
    exact upd_self T p.1 h.1
section
variable {Γ : Ctx} {ks : List Fr} {Q : AExit → AS → Prop} {s : AS}
/-- A loop, by what holds at its head. -/
theorem R_loop {α : Type} (l : α → List (Nat × AV)) (m : α → List (Nat × (Nat × List AV))) (F : α → Nat → Prop) (μ : α → Nat) {a : ACode} (x0 : α) (h0 : Has (l x0) s.T) (h1 : Has (m x0) s.M) (h2 : F x0 s.N) (step : ∀ (x : α) (T : Nat → AV) (M : Nat → Nat × List AV) (N : Nat) (R : AS → Prop), F x N → (∀ (y : α) (s' : AS), μ y < μ x → Has (l y) s'.T → Has (m y) s'.M → F y s'.N → R s') → Run Γ a (.lp R :: ks) Q ⟨over (l x) T, over (m x) M, N⟩) : Run Γ (.loop a) ks Q s := by
  refine ⟨fun n s => ∃ x, μ x = n ∧ Has (l x) s.T ∧ Has (m x) s.M ∧ F x s.N, ⟨_, x0, rfl, h0, h1, h2⟩, ?_⟩
  rintro n ⟨T, M, N⟩ ⟨x, hx, k0, k1, k2⟩
  have h := step x T M N (fun s' => ∃ m', m' < n ∧ ∃ y, μ y = m' ∧ Has (l y) s'.T ∧ Has (m y) s'.M ∧ F y s'.N) k2 (fun y s' g1 g2 g3 g4 => ⟨μ y, by rw [← hx]; exact g1, y, rfl, g2, g3, g4⟩)
  rw [Has.over k0, Has.over k1] at h
  unfold Run at h
  refine awp_mono a ?_ h
  intro e s' he
  cases e <;> exact he
/-- Ways that meet. -/
theorem R_join {α : Type} (l : α → List (Nat × AV)) (m : α → List (Nat × (Nat × List AV))) (F : α → Nat → Prop) {a b : ACode} (h : ∀ R : AS → Prop, (∀ (y : α) (s' : AS), Has (l y) s'.T → Has (m y) s'.M → F y s'.N → R s') → Run Γ a (.lp R :: ks) Q s) (h2 : ∀ (x : α) (T : Nat → AV) (M : Nat → Nat × List AV) (N : Nat), F x N → Run Γ b ks Q ⟨over (l x) T, over (m x) M, N⟩) : Run Γ a (.sq b :: ks) Q s := by
  have h := h (fun s' => Run Γ b ks Q s') (fun y s' g1 g2 g3 => by
    have := h2 y s'.T s'.M s'.N g3
    rw [Has.over g1, Has.over g2] at this
    exact this)
  unfold Run at h
  refine awp_mono a ?_ h
  intro e s' he
  cases e <;> exact he
end
end Go.Proofs.Ytipfdcmjcelbiaa.Safe
end
