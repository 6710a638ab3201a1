/- Who has signed a batch: in plain numbers, and the law, run by the typed machine over rows that are known; no conditions but that the code is readable. -/
import Derived.Test.YtipfdcmjcelbiaaPB
import Derived.Test.YtipfdcmjcelbiaaAllx5
import Derived.Test.YtipfdcmjcelbiaaAllx8
section
/-! ## PS: Who has signed a batch, in plain numbers: both programs give the first signature's user, or 0; conditions: lengths as in the statements. -/
set_option linter.unusedVariables false
set_option linter.unusedSimpArgs false
namespace Go.Proofs.Ytipfdcmjcelbiaa.Mark
open Go Go.RowKit Go.Proofs.Ytipfdcmjcelbiaa.All Go.Proofs.YtipfdcmjcelbiaaW.PrintWords Go.Proofs.YtipfdcmjcelbiaaW.PrintLast Go.Proofs.YtipfdcmjcelbiaaW.PrintMore
/-! ### who has signed a batch -/
def sg (l : List S41) (r u m : Int) : Nat → Int → Int
  | 0, _ => 0
  | n + 1, i => if (rd_T41 l i).f1 = r ∧ (rd_T41 l i).f2 = m ∧ (rd_T41 l i).f0 ≠ u then (rd_T41 l i).f0 else sg l r u m n (i + 1)
theorem ssigned (r u a b : Int) (T : List S52) (c : Int) (G : List S41) (B : List Bool) (hG : G.length ≤ 1048576) (m : Int) (hm : ∀ k, 1099514980000 ≤ k → spec_BatMark.f k a b T c G B = some m) (d : Nat) : ∀ (k : Nat) (i : Int), 1099514980001 + 2 * d ≤ k → 0 ≤ i → (G.length : Int) - i = d →
    spec_BatSigned.l0 k r u i a b T c G B = some (sg G r u m d i) := by
  induction d with
  | zero =>
    intro k i hk h0 hd
    rw [show k = (k - 1) + 1 by omega, spec_BatSigned.l0]
    simp only [sg]
    rw [if_neg (by omega)]
  | succ d ih =>
    intro k i hk h0 hd
    obtain ⟨q, rfl⟩ : ∃ q, k = q + 1 + 1 := ⟨k - 2, by omega⟩
    have hi := ih q (i + 1) (by omega) (by omega) (by omega)
    rw [spec_BatSigned.l0]
    simp only [sg]
    rw [if_pos (show i < (G.length : Int) by omega), if_pos h0]
    have jf : spec_BatSigned.j1 (q + 1) r u i false a b T c G B = some (sg G r u m d (i + 1)) := by
      rw [spec_BatSigned.j1, if_neg (by simp), wr (x := i + 1) (by omega) (by omega)]
      exact hi
    have jt : spec_BatSigned.j1 (q + 1) r u i true a b T c G B = some ((rd_T41 G i).f0) := by
      rw [spec_BatSigned.j1, if_pos rfl, if_pos h0, if_pos (show i < (G.length : Int) by omega)]
    generalize rd_T41 G i = s at *
    rw [hm (q + 1) (by omega)]
    simp only [Option.bind_some]
    by_cases e1 : s.f1 = r
    · by_cases e2 : s.f0 = u
      · rw [if_pos e1, if_pos e2, if_neg (fun z => z.2.2 e2), jf]
      · by_cases e3 : s.f2 = m
        · rw [if_pos e1, if_neg e2, if_pos ⟨e1, e3, e2⟩, show (s.f2 == m) = true by simp [e3], jt]
        · rw [if_pos e1, if_neg e2, if_neg (fun z => e3 z.2.1), show (s.f2 == m) = false by simp [e3], jf]
    · rw [if_neg e1, if_neg (fun z => e1 z.1), jf]
theorem isigned (r u m : Int) (G : List S41) (hG : G.length ≤ 1048576) (d : Nat) : ∀ (k : Nat) (i : Int), 1 + 2 * d ≤ k → 0 ≤ i → (G.length : Int) - i = d →
    impl_BatSigned.l0 k r u m G (G.length : Int) i = some (sg G r u m d i) := by
  induction d with
  | zero =>
    intro k i hk h0 hd
    rw [show k = (k - 1) + 1 by omega, impl_BatSigned.l0]
    simp only [sg]
    rw [if_neg (by omega)]
  | succ d ih =>
    intro k i hk h0 hd
    obtain ⟨q, rfl⟩ : ∃ q, k = q + 1 + 1 := ⟨k - 2, by omega⟩
    have hi := ih q (i + 1) (by omega) (by omega) (by omega)
    rw [impl_BatSigned.l0]
    simp only [sg]
    rw [if_pos (show i < (G.length : Int) by omega), if_pos h0, if_pos (show i < (G.length : Int) by omega)]
    generalize rd_T41 G i = s at *
    have jf : impl_BatSigned.j1 (q + 1) r u m G (G.length : Int) i false s.f0 s.f1 s.f2 = some (sg G r u m d (i + 1)) := by
      rw [impl_BatSigned.j1, if_neg (by simp), wr (x := i + 1) (by omega) (by omega)]
      exact hi
    have jt : impl_BatSigned.j1 (q + 1) r u m G (G.length : Int) i true s.f0 s.f1 s.f2 = some s.f0 := by
      rw [impl_BatSigned.j1, if_pos rfl]
    by_cases e1 : s.f1 = r
    · by_cases e3 : s.f2 = m
      · by_cases e2 : s.f0 = u
        · rw [if_pos e1, if_pos e3, if_neg (fun z => z.2.2 e2), show (s.f0 != u) = false by simp [e2], jf]
        · rw [if_pos e1, if_pos e3, if_pos ⟨e1, e3, e2⟩, show (s.f0 != u) = true by simp [e2], jt]
      · rw [if_pos e1, if_neg e3, if_neg (fun z => e3 z.2.1), jf]
    · rw [if_neg e1, if_neg (fun z => e1 z.1), jf]
/-- A signature that counts. -/
def cnt (l : List S41) (r u m j : Int) : Prop := (rd_T41 l j).f1 = r ∧ (rd_T41 l j).f2 = m ∧ (rd_T41 l j).f0 ≠ u
theorem sg_spec (l : List S41) (r u m : Int) (n : Nat) : ∀ i : Int, (∃ j, i ≤ j ∧ j < i + n ∧ cnt l r u m j ∧ (rd_T41 l j).f0 = sg l r u m n i) ∨ ((∀ j, i ≤ j → j < i + n → ¬ cnt l r u m j) ∧ sg l r u m n i = 0) := by
  induction n with
  | zero => intro i; exact .inr ⟨fun j h1 h2 => by omega, rfl⟩
  | succ n ih =>
    intro i
    unfold sg
    by_cases h : (rd_T41 l i).f1 = r ∧ (rd_T41 l i).f2 = m ∧ (rd_T41 l i).f0 ≠ u
    · rw [if_pos h]
      exact .inl ⟨i, by omega, by omega, h, rfl⟩
    · rw [if_neg h]
      rcases ih (i + 1) with ⟨j, h1, h2, h3, h4⟩ | ⟨h1, h2⟩
      · exact .inl ⟨j, by omega, by omega, h3, h4⟩
      · refine .inr ⟨fun j a b => ?_, h2⟩
        by_cases e : j = i
        · subst e; exact h
        · exact h1 j (by omega) (by omega)
theorem both (a b a' b' : Int) (T : List S52) (c c' : Int) (G : List S41) (B : List Bool) (hT : T.length ≤ 1048576) (hG : G.length ≤ 1048576) (hB : B.length ≤ 1048576) (hD : ∀ j : Int, 0 ≤ j → j < T.length → (rd_T52 T j).f4.length ≤ 1048576) (r u : Int) : ∃ k, impl_BatSigned.f k a b T c G B r u = some (sg G r u (bmark a T B) G.length 0) ∧ spec_BatSigned.f k a b T c G B r u = some (sg G r u (bmark a T B) G.length 0) := by
  refine ⟨1099514980001 + 2 * G.length, ?_, ?_⟩
  · unfold impl_BatSigned.f
    rw [imark a b T c G B hT hB hD _ (by omega)]
    simp only [Option.bind_some]
    exact isigned r u _ G hG G.length _ 0 (by omega) (by omega) (by omega)
  · unfold spec_BatSigned.f
    exact ssigned r u a b T c G B hG _ (fun k hk => smark a b T c G B hT hB hD k hk) G.length _ 0 (by omega) (by omega) (by omega)
end Go.Proofs.Ytipfdcmjcelbiaa.Mark
end

section
/-! ## P7: The law of who has signed a batch: its rest, run by the typed machine over rows that are known; no conditions but that the code is readable. -/
set_option linter.unusedVariables false
set_option linter.unusedSimpArgs false
set_option maxRecDepth 8000
set_option maxHeartbeats 4000000
namespace Go.Proofs.Ytipfdcmjcelbiaa.Safe
open Go Go.RowKit Go.Proofs.Ytipfdcmjcelbiaa.All Go.Proofs.YtipfdcmjcelbiaaW.PrintWords Go.Proofs.YtipfdcmjcelbiaaW.PrintLast Go.Proofs.YtipfdcmjcelbiaaW.PrintMore
attribute [local go_sem] R_skip R_seq R_ops R_cond R_blk R_exit R_ret K_nil K_sqn K_sqe K_sqr K_bkn K_bke K_bkr K_lpn K_lpe K_lpr Ro_nil O_mv O_pick O_new O_box O_build O_bsl L_ld L_p L_r L_o inI allI tabL O_tab or_false O_st O_fa O_ia L_bin B_lss B_leq B_gtr B_geq B_eql B_neq B_add B_sub B_mul B_quo B_rem B_sadd B_seql B_sneq B_aeql B_aneq B_beql B_bneq Br_t Br_f Br_d decide_true decide_false beq_self_eq_true Bool.true_beq Bool.false_beq O_un O_cvt O_ext O_fld O_slc O_lenf O_lent L_app O_idx Ro_gd G_tt G_ff G_tf G_ft G_u C_t C_f S_eq S_em S_byte S_bad Gk vD vS vA vT vB vQ vL vH vC stD unD S_slc bnd fillA P_s P_n B_t E_t E_c U_at U_am over_cons over_nil allC cellsA cfm lay esz ints scls mk_t mk_f okRs okR finR rv finS p1 pasl pas List.map List.length List.drop List.take List.getD_cons_zero List.getD_cons_succ List.getD_nil List.getElem?_cons_zero List.getElem?_cons_succ List.not_mem_nil List.mem_cons List.nil_append List.cons_append decide_eq_true_eq decide_eq_false_iff_not Bool.not_eq_true' Bool.not_eq_false' Bool.not_true Bool.not_false Bool.not_eq_true Bool.not_eq_false true_and and_true false_and and_false not_false_eq_true not_true_eq_false Bool.true_and Bool.and_true true_or or_true forall_const true_imp_iff false_imp_iff Bool.forall_bool Prod.forall cond_true cond_false eq_self Nat.zero_add Nat.add_zero LIM
/-! ### rows that are known -/
/-- A row of len elements of k cells each, at block g from o on. -/
def mrow (k g o len : Nat) (row : Nat → List AV) : Addr → Nat → Option (List AV) := fun ad n =>
  match ad with
  | ⟨g', o', none⟩ => if g' = g ∧ o ≤ o' ∧ (o' - o) / k < len ∧ (o' - o) % k + n ≤ k then some (((row ((o' - o) / k)).drop ((o' - o) % k)).take n) else none
  | _ => none
theorem mrow_at {k g o len : Nat} {row : Nat → List AV} {i j n : Nat} (hi : i < len) (hj : j + n ≤ k) (hn : 0 < n) : mrow k g o len row ⟨g, o + i * k + j, none⟩ n = some (((row i).drop j).take n) := by
  have e1 : (o + i * k + j - o) / k = i := by
    rw [show o + i * k + j - o = j + i * k by omega, Nat.add_mul_div_right _ _ (by omega), Nat.div_eq_of_lt (by omega), Nat.zero_add]
  have e2 : (o + i * k + j - o) % k = j := by
    rw [show o + i * k + j - o = j + i * k by omega, Nat.add_mul_mod_self_right, Nat.mod_eq_of_lt (by omega)]
  simp only [mrow]
  rw [e1, e2, if_pos ⟨trivial, by omega, hi, hj⟩]
theorem mrow_ok {B : Base} {k g o len : Nat} {row : Nat → List AV} (hk : 0 < k) (h : ∀ S N w, B.P S N w → ∀ i, i < len → ∃ cs : List Value, F2 (SV S N w) (row i) cs ∧ cs.length = k ∧ ∀ j v, cs[j]? = some v → w.cell? ⟨g, o + i * k + j, none⟩ = some v) : MOk B (mrow k g o len row) := by
  intro S N w hP ad n l hm
  unfold mrow at hm
  split at hm
  · rename_i g' o'
    split at hm
    · rename_i hc
      obtain ⟨rfl, h1, h2, h3⟩ := hc
      injection hm with hm
      subst hm
      obtain ⟨cs, hf, hl, hcell⟩ := h S N w hP _ h2
      have hd := Nat.div_add_mod (o' - o) k
      rw [Nat.mul_comm] at hd
      refine ⟨(cs.drop ((o' - o) % k)).take n, F2.take _ (F2.drop _ hf), by simp; omega, fun j v hj => ?_⟩
      have hjn : j < n := by
        rcases Nat.lt_or_ge j n with h | h
        · exact h
        · rw [List.getElem?_eq_none (by simp; omega)] at hj; cases hj
      rw [List.getElem?_take_of_lt hjn, List.getElem?_drop] at hj
      rw [Addr_add, show o' + j = o + (o' - o) / k * k + ((o' - o) % k + j) by omega]
      exact hcell _ _ hj
    · cases hm
  · cases hm
theorem Good.okM {B : Base} {l : List (Nat × Safe.Spec)} {m : Addr → Nat → Option (List AV)} (h : Good B l) (hm : MOk B m) : COk B (lkM l m) := ⟨h.all, hm⟩
def row41v (l : List S41) (i : Nat) : List AV := [.int (rd_T41 l i).f0, .int (rd_T41 l i).f1, .int (rd_T41 l i).f2]
theorem mem41 {N0 : Nat} {w1 : World} {g o : Nat} {l : List S41} (C : Kd.C k41 w1 (some ⟨g, o, none⟩) l.length l) : MOk (Pick.at0 N0 w1) (mrow 3 g o l.length (row41v l)) := by
  refine mrow_ok (by omega) (fun S N w hP i hi => ?_)
  obtain ⟨ad, c, e, _, hK, hc0⟩ := Kd.C_get (Kd.C_below C (Open.at0_below hP)) z41 i (by omega) (by omega)
  injection e with e
  subst e
  have hc : ∀ j u, c[j]? = some u → w.cell? ((⟨g, o, none⟩ : Addr).add ((i : Int).toNat * 3 + j)) = some u := hc0
  obtain rfl := k41_open hK
  refine ⟨[.int .i64 (rd_T41 l i).f0, .int .i64 (rd_T41 l i).f1, .int .i64 (rd_T41 l i).f2], ⟨rfl, rfl, rfl, trivial⟩, rfl, fun j v hj => ?_⟩
  have := hc j v hj
  rw [Addr_add, Int.toNat_natCast, ← Nat.add_assoc] at this
  exact this
/-! ### the contracts of the signed -/
abbrev spS (s r u : Int) (V2 V4 V5 : Value) (U : Int) : Safe.Spec := mkS (α := Int) (fun l N => match l with | [.agg [.int s', .int b, .lit v2, .int t, .lit v4, .lit v5], .int r', .int u'] => s' = s ∧ v2 = V2 ∧ v4 = V4 ∧ v5 = V5 ∧ r' = r ∧ u' = u | _ => False) (fun l N x => x = U) .int (fun l N x => N) (by intro l N h; exact ⟨U, rfl, Nat.le_refl _⟩)
theorem sS {f N0 : Nat} {w1 : World} {s r u : Int} {A2 A4 A5 : Option Addr} {c2 c4 c5 : Nat} {l2 : List S52} {l4 : List S41} {l5 : List Bool} {U : Int} (C2 : Kd.C k52 w1 A2 l2.length l2) (C4 : Kd.C k41 w1 A4 l4.length l4) (C5 : Kd.C Kd.bool w1 A5 l5.length l5)
    (hcall : ∀ (args : Array Value) (w : World), (callFunc f args).run Try.prog w = .ok (.enter f args) w)
    (h : ∀ (b t : Int) (w : World), Kd.C k52 w A2 l2.length l2 → Kd.C k41 w A4 l4.length l4 → Kd.C Kd.bool w A5 l5.length l5 → Calls Try.prog f #[.agg #[.int .i64 s, .int .i64 b, .slice A2 l2.length c2, .int .i64 t, .slice A4 l4.length c4, .slice A5 l5.length c5], .int .i64 r, .int .i64 u] w fun e w' => e = .returned (.int .i64 U) ∧ Below w.heap.size w w') :
    Sound (Pick.at0 N0 w1) f (spS s r u (.slice A2 l2.length c2) (.slice A4 l4.length c4) (.slice A5 l5.length c5) U) := by
  refine below_sound hcall (fun l N S w vs hpre hP hvs => ?_)
  dsimp only [spS, mkS] at hpre ⊢
  split at hpre
  case h_2 => exact hpre.elim
  rename_i s' b v2 t v4 v5 r' u'
  obtain ⟨rfl, rfl, rfl, rfl, rfl, rfl⟩ := hpre
  obtain ⟨vl⟩ := vs
  obtain ⟨q0, z, e0, h0, k0⟩ := F2.c hvs
  obtain ⟨q1, z, rfl, h1, k1⟩ := F2.c k0
  obtain ⟨q2, z, rfl, h2, k2⟩ := F2.c k1
  obtain rfl := F2.n k2
  obtain ⟨cs, rfl, hf⟩ := h0
  obtain ⟨u0, z0, rfl, g0, k0⟩ := F2.c hf
  obtain ⟨u1, z1, rfl, g1, k1⟩ := F2.c k0
  obtain ⟨u2, z2, rfl, g2, k2⟩ := F2.c k1
  obtain ⟨u3, z3, rfl, g3, k3⟩ := F2.c k2
  obtain ⟨u4, z4, rfl, g4, k4⟩ := F2.c k3
  obtain ⟨u5, z5, rfl, g5, k5⟩ := F2.c k4
  obtain rfl := F2.n k5
  obtain rfl := (show u0 = .int .i64 s' from g0)
  obtain rfl := (show u1 = .int .i64 b from g1)
  obtain rfl := (show u3 = .int .i64 t from g3)
  obtain rfl := (show q1 = .int .i64 r' from h1)
  obtain rfl := (show q2 = .int .i64 u' from h2)
  obtain ⟨rfl, _⟩ := (show SV S N w (.lit (.slice A2 l2.length c2)) u2 from g2)
  obtain ⟨rfl, _⟩ := (show SV S N w (.lit (.slice A4 l4.length c4)) u4 from g4)
  obtain ⟨rfl, _⟩ := (show SV S N w (.lit (.slice A5 l5.length c5)) u5 from g5)
  obtain rfl : vl = _ := e0
  have hB := Open.at0_below hP
  exact ⟨.int U, .int .i64 U, ⟨U, rfl, rfl, rfl⟩, fun w' => rfl, h b t w (Kd.C_below C2 hB) (Kd.C_below C4 hB) (Kd.C_below C5 hB)⟩
/-! ### what holds at the loop's head -/
def Inv5 (l : List S41) (r u K U : Int) (sm hh : Bool) (i : Int) : Prop := 0 ≤ i ∧ i ≤ (l.length : Int) ∧ (sm = true ↔ ∃ j, 0 ≤ j ∧ j < i ∧ Mark.cnt l r u K j) ∧ (hh = true ↔ ∃ j, 0 ≤ j ∧ j < i ∧ Mark.cnt l r u K j ∧ (rd_T41 l j).f0 = U)
section
variable {l : List S41} {r u K U : Int} {sm hh : Bool} {i : Int}
theorem inv5_0 (l : List S41) (r u K U : Int) : Inv5 l r u K U false false 0 := by
  refine ⟨by omega, by omega, ⟨fun h => ?_, fun ⟨j, h1, h2, _⟩ => by omega⟩, ⟨fun h => ?_, fun ⟨j, h1, h2, _⟩ => by omega⟩⟩
  · cases h
  · cases h
theorem inv5_no (h : Inv5 l r u K U sm hh i) (hi : i < (l.length : Int)) (hc : ¬ Mark.cnt l r u K i) : Inv5 l r u K U sm hh (i + 1) := by
  obtain ⟨h0, h1, h2, h3⟩ := h
  refine ⟨by omega, by omega, h2.trans ⟨fun ⟨j, a, b, c⟩ => ⟨j, a, by omega, c⟩, fun ⟨j, a, b, c⟩ => ?_⟩, h3.trans ⟨fun ⟨j, a, b, c⟩ => ⟨j, a, by omega, c⟩, fun ⟨j, a, b, c⟩ => ?_⟩⟩
  · by_cases e : j = i
    · subst e; exact absurd c hc
    · exact ⟨j, a, by omega, c⟩
  · by_cases e : j = i
    · subst e; exact absurd c.1 hc
    · exact ⟨j, a, by omega, c⟩
theorem inv5_yes (h : Inv5 l r u K U sm hh i) (hi : i < (l.length : Int)) (hc : Mark.cnt l r u K i) {b : Bool} (hb : b = true ↔ hh = true ∨ (rd_T41 l i).f0 = U) : Inv5 l r u K U true b (i + 1) := by
  obtain ⟨h0, h1, h2, h3⟩ := h
  refine ⟨by omega, by omega, ⟨fun _ => ⟨i, h0, by omega, hc⟩, fun _ => rfl⟩, hb.trans ⟨fun h => ?_, fun ⟨j, a, b, c⟩ => ?_⟩⟩
  · rcases h with h | h
    · obtain ⟨j, a, b, c⟩ := h3.1 h
      exact ⟨j, a, by omega, c⟩
    · exact ⟨i, h0, by omega, hc, h⟩
  · by_cases e : j = i
    · subst e; exact .inr c.2
    · exact .inl (h3.2 ⟨j, a, by omega, c⟩)
theorem inv5_end (h : Inv5 l r u K U sm hh i) (hi : ¬ i < (l.length : Int)) (hU : (∃ j, 0 ≤ j ∧ j < (l.length : Int) ∧ Mark.cnt l r u K j ∧ (rd_T41 l j).f0 = U) ∨ ((∀ j, 0 ≤ j → j < (l.length : Int) → ¬ Mark.cnt l r u K j) ∧ U = 0)) : sm = true ∧ hh = true ∨ sm = false ∧ hh = false ∧ U = 0 := by
  obtain ⟨h0, h1, h2, h3⟩ := h
  rcases hU with ⟨j, a, b, c, d⟩ | ⟨h, e⟩
  · exact .inl ⟨h2.2 ⟨j, a, by omega, c⟩, h3.2 ⟨j, a, by omega, c, d⟩⟩
  · refine .inr ⟨?_, ?_, e⟩
    · cases sm with
      | false => rfl
      | true => obtain ⟨j, a, b, c⟩ := h2.1 rfl; exact absurd c (h j a (by omega))
    · cases hh with
      | false => rfl
      | true => obtain ⟨j, a, b, c⟩ := h3.1 rfl; exact absurd c.1 (h j a (by omega))
end
def r5 : List AOper := [⟨(some 14), none, (.mv (.t 16))⟩, ⟨(some 17), none, (.ext 0 (.t 14))⟩, ⟨(some 18), none, (.ext 1 (.t 14))⟩, ⟨(some 19), none, (.ext 2 (.t 14))⟩, ⟨(some 3), none, (.new [(.int 0), (.int 0), (.sl 52 0), (.int 0), (.sl 41 0), (.sl 4 0)])⟩, ⟨none, none, (.st 6 (.t 3) (.t 17))⟩, ⟨(some 4), none, (.mv (.t 18))⟩, ⟨(some 5), none, (.mv (.t 19))⟩]
def q5 : ACode := (.seq (.ops [⟨(some 20), none, (.ld 6 true true [] (.t 3))⟩, ⟨(some 21), none, (.mv (.t 4))⟩, ⟨(some 22), none, (.mv (.t 5))⟩, ⟨(some 23), none, (.call 15 [(.t 20), (.t 21), (.t 22)])⟩, ⟨(some 6), none, (.mv (.t 23))⟩]) (.seq (.seq (.ops [⟨(some 24), none, (.mv (.t 6))⟩, ⟨(some 25), none, (.ld 6 true true [] (.t 3))⟩, ⟨(some 26), none, (.mv (.t 4))⟩, ⟨(some 27), none, (.mv (.t 5))⟩, ⟨(some 28), none, (.call 16 [(.t 25), (.t 26), (.t 27)])⟩, ⟨(some 29), none, (.bin .neq 3 (.t 24) (.t 28))⟩, ⟨(some 30), none, (.mv (.t 29))⟩, ⟨(some 31), (some (30, false)), (.ld 6 true true [] (.t 3))⟩, ⟨(some 32), (some (30, false)), (.call 7 [(.t 31)])⟩, ⟨(some 33), (some (30, false)), (.ld 6 true false [] (.t 3))⟩, ⟨(some 34), (some (30, false)), (.call 8 [(.t 33)])⟩, ⟨(some 35), (some (30, false)), (.bin .neq 3 (.t 32) (.t 34))⟩, ⟨(some 36), none, (.pick (.t 30) (.c (.bool true)) (.t 35))⟩]) (.cond (.t 36) (.seq (.ops [⟨(some 2), none, (.mv (.c (.bool false)))⟩]) .ret) .skip)) (.seq (.ops [⟨(some 7), none, (.mv (.c (.bool false)))⟩]) (.seq (.ops [⟨(some 8), none, (.mv (.c (.bool false)))⟩]) (.seq (.seq (.ops [⟨(some 9), none, (.mv (.c (.int 0)))⟩]) (.blk 0 (.loop (.seq (.seq (.ops [⟨(some 37), none, (.mv (.t 9))⟩, ⟨(some 38), none, (.fa 4 (.t 3))⟩, ⟨(some 39), none, (.ld 1 false true [] (.t 38))⟩, ⟨(some 40), none, (.len false (.t 39))⟩, ⟨(some 41), none, (.bin .lss 3 (.t 37) (.t 40))⟩]) (.cond (.t 41) .skip (.exit 0))) (.seq (.blk 1 (.seq (.ops [⟨(some 44), none, (.fa 4 (.t 3))⟩, ⟨(some 45), none, (.ld 1 false true [] (.t 44))⟩, ⟨(some 46), none, (.mv (.t 9))⟩, ⟨(some 47), none, (.ia 41 (.t 45) (.t 46))⟩, ⟨(some 48), none, (.ld 3 true true [] (.t 47))⟩, ⟨(some 10), none, (.new [(.int 0), (.int 0), (.int 0)])⟩, ⟨none, none, (.st 3 (.t 10) (.t 48))⟩]) (.seq (.ops [⟨(some 49), none, (.fa 1 (.t 10))⟩, ⟨(some 50), none, (.ld 1 false true [] (.t 49))⟩, ⟨(some 51), none, (.mv (.t 4))⟩, ⟨(some 52), none, (.bin .eql 3 (.t 50) (.t 51))⟩, ⟨(some 53), none, (.mv (.t 52))⟩, ⟨(some 54), (some (53, true)), (.fa 0 (.t 10))⟩, ⟨(some 55), (some (53, true)), (.ld 1 false true [] (.t 54))⟩, ⟨(some 56), (some (53, true)), (.mv (.t 5))⟩, ⟨(some 57), (some (53, true)), (.bin .neq 3 (.t 55) (.t 56))⟩, ⟨(some 58), none, (.pick (.t 53) (.t 57) (.c (.bool false)))⟩, ⟨(some 59), none, (.mv (.t 58))⟩, ⟨(some 60), (some (59, true)), (.fa 2 (.t 10))⟩, ⟨(some 61), (some (59, true)), (.ld 1 false false [] (.t 60))⟩, ⟨(some 62), (some (59, true)), (.ld 6 true true [] (.t 3))⟩, ⟨(some 63), (some (59, true)), (.call 7 [(.t 62)])⟩, ⟨(some 64), (some (59, true)), (.bin .eql 3 (.t 61) (.t 63))⟩, ⟨(some 65), none, (.pick (.t 59) (.t 64) (.c (.bool false)))⟩]) (.cond (.t 65) (.seq (.ops [⟨(some 7), none, (.mv (.c (.bool true)))⟩]) (.ops [⟨(some 66), none, (.mv (.t 8))⟩, ⟨(some 67), none, (.mv (.t 66))⟩, ⟨(some 68), (some (67, false)), (.fa 0 (.t 10))⟩, ⟨(some 69), (some (67, false)), (.ld 1 false true [] (.t 68))⟩, ⟨(some 70), (some (67, false)), (.mv (.t 6))⟩, ⟨(some 71), (some (67, false)), (.bin .eql 3 (.t 69) (.t 70))⟩, ⟨(some 72), none, (.pick (.t 67) (.c (.bool true)) (.t 71))⟩, ⟨(some 8), none, (.mv (.t 72))⟩])) .skip)))) (.ops [⟨(some 42), none, (.mv (.t 9))⟩, ⟨(some 43), none, (.bin .add 3 (.t 42) (.c (.int 1)))⟩, ⟨(some 9), none, (.mv (.t 43))⟩])))))) (.seq (.ops [⟨(some 73), none, (.mv (.t 7))⟩, ⟨(some 74), none, (.mv (.t 8))⟩, ⟨(some 75), none, (.bin .eql 4 (.t 73) (.t 74))⟩, ⟨(some 76), none, (.mv (.t 75))⟩, ⟨(some 77), (some (76, true)), (.mv (.t 7))⟩, ⟨(some 78), (some (76, true)), (.mv (.t 77))⟩, ⟨(some 79), (some (78, false)), (.mv (.t 6))⟩, ⟨(some 80), (some (78, false)), (.bin .eql 3 (.t 79) (.c (.int 0)))⟩, ⟨(some 81), (some (76, true)), (.pick (.t 78) (.c (.bool true)) (.t 80))⟩, ⟨(some 82), none, (.pick (.t 76) (.t 81) (.c (.bool false)))⟩, ⟨(some 83), none, (.mv (.t 82))⟩, ⟨(some 84), (some (83, true)), (.call 9 [])⟩, ⟨(some 85), none, (.pick (.t 83) (.t 84) (.c (.bool false)))⟩, ⟨(some 2), none, (.mv (.t 85))⟩]) .ret))))))
abbrev G5 (s r u : Int) (V2 V4 V5 : Value) (F : Int → Int) (U : Int) : List (Nat × Safe.Spec) := [(7, spM V2 V4 V5 F), (8, spM V2 V4 V5 F), (9, spC), (15, spS s r u V2 V4 V5 U), (16, spS s r u V2 V4 V5 U)]
theorem rest5 (s b t r u : Int) (V2 V5 : Value) (A4 : Option Addr) (c4 : Nat) (l4 : List S41) (F : Int → Int) (U : Int) (m : Addr → Nat → Option (List AV)) (hl : l4.length ≤ 1048576) (hs : (A4 = none ∧ l4.length = 0) ∨ ∃ g o, A4 = some ⟨g, o, none⟩ ∧ ∀ i : Nat, i < l4.length → m ⟨g, o + i * 3, none⟩ 3 = some (row41v l4 i))
    (hU : (∃ j, 0 ≤ j ∧ j < (l4.length : Int) ∧ Mark.cnt l4 r u (F s) j ∧ (rd_T41 l4 j).f0 = U) ∨ ((∀ j, 0 ≤ j → j < (l4.length : Int) → ¬ Mark.cnt l4 r u (F s) j) ∧ U = 0)) :
    aops (lkM (G5 s r u V2 (.slice A4 l4.length c4) V5 F U) m) r5 ⟨upd (fun _ => .any) 16 (.tup [.agg [.int s, .int b, .lit V2, .int t, .lit (.slice A4 l4.length c4), .lit V5], .int r, .int u]), fun _ => (0, []), 4000⟩ (awp (lkM (G5 s r u V2 (.slice A4 l4.length c4) V5 F U) m) q5 tru) := by
  generalize hg : lkM (G5 s r u V2 (.slice A4 l4.length c4) V5 F U) m = G
  have hm : G.m = m := by rw [← hg]; rfl
  have h7 : G.f 7 = some (spM V2 (.slice A4 l4.length c4) V5 F) := by rw [← hg]; rfl
  have h8 : G.f 8 = some (spM V2 (.slice A4 l4.length c4) V5 F) := by rw [← hg]; rfl
  have h9 : G.f 9 = some spC := by rw [← hg]; rfl
  have h15 : G.f 15 = some (spS s r u V2 (.slice A4 l4.length c4) V5 U) := by rw [← hg]; rfl
  have h16 : G.f 16 = some (spS s r u V2 (.slice A4 l4.length c4) V5 U) := by rw [← hg]; rfl
  clear hg
  show Ro G r5 [.sq q5] tru _
  simp only [r5, q5]
  simp (maxSteps := 100000000) only [go_sem, Int.reduceBEq, reduceIte, Nat.reduceEqDiff, Nat.reduceAdd, Nat.reduceSub, Nat.reduceLeDiff, Nat.reduceLT, Int.reduceLE, Int.reduceLT, Int.reduceNeg, Int.reduceEq, reduceCtorEq, O_call h7, O_call h8, O_call h9, O_call h15, O_call h16, tru, forall_eq, L_l, lenL, faL]
  refine R_loop (α := Bool × Bool × Int) (fun x => [(3, .ptr 3 1 0), (4, .int r), (5, .int u), (6, .int U), (7, .bool x.1), (8, .bool x.2.1), (9, .int x.2.2)]) (fun x => [(3, (1, [.int s, .int b, .lit V2, .int t, .lit (.slice A4 l4.length c4), .lit V5]))]) (fun x N' => Inv5 l4 r u (F s) U x.1 x.2.1 x.2.2) (fun x => ((l4.length : Int) - x.2.2).toNat) (false, false, 0) (hc rfl (hc rfl (hc rfl (hc rfl (hc rfl (hc rfl (hc rfl hn))))))) (hc rfl hn) (inv5_0 l4 r u (F s) U) ?_
  rintro ⟨sm, hh, i⟩ T1 M1 N1 R1 hF1 hR1
  try dsimp only at hF1 hR1
  obtain ⟨hi0, hi1, _⟩ := id hF1
  rcases hs with ⟨rfl, h0⟩ | ⟨g, o, rfl, hmem⟩
  · simp (maxSteps := 100000000) only [go_sem, Int.reduceBEq, reduceIte, Nat.reduceEqDiff, Nat.reduceAdd, Nat.reduceSub, Nat.reduceLeDiff, Nat.reduceLT, Int.reduceLE, Int.reduceLT, Int.reduceNeg, Int.reduceEq, reduceCtorEq, O_call h7, O_call h8, O_call h9, O_call h15, O_call h16, tru, forall_eq, L_l, lenL, faL, iaL]
    refine ⟨fun hlt => by omega, fun hge => ?_⟩
    rcases inv5_end hF1 hge hU with ⟨rfl, rfl⟩ | ⟨rfl, rfl, rfl⟩
    · simp (maxSteps := 100000000) only [go_sem, Int.reduceBEq, reduceIte, Nat.reduceEqDiff, Nat.reduceAdd, Nat.reduceSub, Nat.reduceLeDiff, Nat.reduceLT, Int.reduceLE, Int.reduceLT, Int.reduceNeg, Int.reduceEq, reduceCtorEq, O_call h7, O_call h8, O_call h9, O_call h15, O_call h16, tru, forall_eq, L_l, lenL, faL, iaL]
      exact fun _ => trivial
    · simp (maxSteps := 100000000) only [go_sem, Int.reduceBEq, reduceIte, Nat.reduceEqDiff, Nat.reduceAdd, Nat.reduceSub, Nat.reduceLeDiff, Nat.reduceLT, Int.reduceLE, Int.reduceLT, Int.reduceNeg, Int.reduceEq, reduceCtorEq, O_call h7, O_call h8, O_call h9, O_call h15, O_call h16, tru, forall_eq, L_l, lenL, faL, iaL]
      exact fun _ => trivial
  · simp (maxSteps := 100000000) only [go_sem, Int.reduceBEq, reduceIte, Nat.reduceEqDiff, Nat.reduceAdd, Nat.reduceSub, Nat.reduceLeDiff, Nat.reduceLT, Int.reduceLE, Int.reduceLT, Int.reduceNeg, Int.reduceEq, reduceCtorEq, O_call h7, O_call h8, O_call h9, O_call h15, O_call h16, tru, forall_eq, L_l, lenL, faL, iaL]
    refine ⟨fun hlt => ⟨⟨hi0, hlt⟩, ?_⟩, fun hge => ?_⟩
    · have ew : wrap64 (i + 1) = i + 1 := wr (by omega) (by omega)
      have hz := hmem i.toNat (by omega)
      rw [← hm] at hz
      simp only [row41v, show ((i.toNat : Nat) : Int) = i from Int.toNat_of_nonneg hi0] at hz
      rw [S_lp _ _ _ _ _ _ hz]
      cases hh
      · simp (maxSteps := 100000000) only [go_sem, Int.reduceBEq, reduceIte, Nat.reduceEqDiff, Nat.reduceAdd, Nat.reduceSub, Nat.reduceLeDiff, Nat.reduceLT, Int.reduceLE, Int.reduceLT, Int.reduceNeg, Int.reduceEq, reduceCtorEq, O_call h7, O_call h8, O_call h9, O_call h15, O_call h16, tru, forall_eq, L_l, lenL, faL, iaL, ew]
        refine ⟨fun e1 => ⟨fun e2 _ => ⟨fun e3 => ⟨fun e4 => ?_, fun e4 => ?_⟩, fun e3 => ?_⟩, fun e2 => ?_⟩, fun e1 => ?_⟩
        · exact hR1 (true, true, i + 1) _ (by dsimp only; omega) (hc rfl (hc rfl (hc rfl (hc rfl (hc rfl (hc rfl (hc rfl hn))))))) (hc rfl hn) (inv5_yes hF1 hlt ⟨e1, e3, e2⟩ (by simp [e4]))
        · exact hR1 (true, false, i + 1) _ (by dsimp only; omega) (hc rfl (hc rfl (hc rfl (hc rfl (hc rfl (hc rfl (hc rfl hn))))))) (hc rfl hn) (inv5_yes hF1 hlt ⟨e1, e3, e2⟩ (by simp [e4]))
        · exact hR1 (sm, false, i + 1) _ (by dsimp only; omega) (hc rfl (hc rfl (hc rfl (hc rfl (hc rfl (hc rfl (hc rfl hn))))))) (hc rfl hn) (inv5_no hF1 hlt (fun z => e3 z.2.1))
        · exact hR1 (sm, false, i + 1) _ (by dsimp only; omega) (hc rfl (hc rfl (hc rfl (hc rfl (hc rfl (hc rfl (hc rfl hn))))))) (hc rfl hn) (inv5_no hF1 hlt (fun z => e2 z.2.2))
        · exact hR1 (sm, false, i + 1) _ (by dsimp only; omega) (hc rfl (hc rfl (hc rfl (hc rfl (hc rfl (hc rfl (hc rfl hn))))))) (hc rfl hn) (inv5_no hF1 hlt (fun z => e1 z.1))
      · simp (maxSteps := 100000000) only [go_sem, Int.reduceBEq, reduceIte, Nat.reduceEqDiff, Nat.reduceAdd, Nat.reduceSub, Nat.reduceLeDiff, Nat.reduceLT, Int.reduceLE, Int.reduceLT, Int.reduceNeg, Int.reduceEq, reduceCtorEq, O_call h7, O_call h8, O_call h9, O_call h15, O_call h16, tru, forall_eq, L_l, lenL, faL, iaL, ew]
        refine ⟨fun e1 => ⟨fun e2 _ => ⟨fun e3 => ?_, fun e3 => ?_⟩, fun e2 => ?_⟩, fun e1 => ?_⟩
        · exact hR1 (true, true, i + 1) _ (by dsimp only; omega) (hc rfl (hc rfl (hc rfl (hc rfl (hc rfl (hc rfl (hc rfl hn))))))) (hc rfl hn) (inv5_yes hF1 hlt ⟨e1, e3, e2⟩ (by simp))
        · exact hR1 (sm, true, i + 1) _ (by dsimp only; omega) (hc rfl (hc rfl (hc rfl (hc rfl (hc rfl (hc rfl (hc rfl hn))))))) (hc rfl hn) (inv5_no hF1 hlt (fun z => e3 z.2.1))
        · exact hR1 (sm, true, i + 1) _ (by dsimp only; omega) (hc rfl (hc rfl (hc rfl (hc rfl (hc rfl (hc rfl (hc rfl hn))))))) (hc rfl hn) (inv5_no hF1 hlt (fun z => e2 z.2.2))
        · exact hR1 (sm, true, i + 1) _ (by dsimp only; omega) (hc rfl (hc rfl (hc rfl (hc rfl (hc rfl (hc rfl (hc rfl hn))))))) (hc rfl hn) (inv5_no hF1 hlt (fun z => e1 z.1))
    · rcases inv5_end hF1 hge hU with ⟨rfl, rfl⟩ | ⟨rfl, rfl, rfl⟩
      · simp (maxSteps := 100000000) only [go_sem, Int.reduceBEq, reduceIte, Nat.reduceEqDiff, Nat.reduceAdd, Nat.reduceSub, Nat.reduceLeDiff, Nat.reduceLT, Int.reduceLE, Int.reduceLT, Int.reduceNeg, Int.reduceEq, reduceCtorEq, O_call h7, O_call h8, O_call h9, O_call h15, O_call h16, tru, forall_eq, L_l, lenL, faL, iaL]
        exact fun _ => trivial
      · simp (maxSteps := 100000000) only [go_sem, Int.reduceBEq, reduceIte, Nat.reduceEqDiff, Nat.reduceAdd, Nat.reduceSub, Nat.reduceLeDiff, Nat.reduceLT, Int.reduceLE, Int.reduceLT, Int.reduceNeg, Int.reduceEq, reduceCtorEq, O_call h7, O_call h8, O_call h9, O_call h15, O_call h16, tru, forall_eq, L_l, lenL, faL, iaL]
        exact fun _ => trivial
theorem law5 {W : World} {A : Option Addr} {c : Nat} {l0 : List Int} (hr0 : Kd.C (Kd.int .u8) W A l0.length l0) (hc0 : l0.length ≤ c) (hb0 : ∀ x ∈ l0, 0 ≤ x ∧ x ≤ 255) : Calls Try.prog 5 #[.slice A l0.length c] W (fun e w' => e = .returned (.bool true) ∧ Below W.heap.size W w') := by
  refine law_run (D := 14) (m := 15) (d := 16) (p := 11) (q := 12) (r := 13) (fn := Try.f5) (Ca := cA (body Try.f5)) (Cb := cA (cB (body Try.f5))) (Cr := cB (cB (cB (body Try.f5)))) (id := cI (cA (cB (cB (body Try.f5))))) (ops := cO (cA (cB (cB (body Try.f5))))) (R := r5) (idx := [2, 3, 4, 5, 6, 7, 8, 9]) (pr := q5)
    (by kernel_rfl) (by kernel_rfl) (by kernel_rfl) (Nat.le_of_ble_eq_true (by kernel_rfl)) (by kernel_rfl) (by kernel_rfl) (by kernel_rfl) (by omega) (by omega) (by omega) (by kernel_rfl) (by kernel_rfl) (by kernel_rfl) ?_ (Nat.le_of_ble_eq_true (by kernel_rfl)) (fun args w => by kernel_rfl) ?_
  · refine ⟨(cO (cA (cB (cB (body Try.f5))))).getD 1 default, by kernel_rfl, by kernel_rfl, by kernel_rfl, #[22], by kernel_rfl⟩
  · intro w hB
    refine Calls.mono (draw14 (Kd.C_below hr0 hB) hc0 hb0) ?_
    rintro e w1 ⟨v, r, u, rfl, ⟨s, b, t, A2, A4, A5, c2, c4, c5, l2, l4, l5, rfl, C2, d2, C4, d4, C5, d5, q2, q4, q5', p2, hsh⟩, hB1⟩
    obtain ⟨m7, m8⟩ := marks (N0 := 4000) (by omega) C2 d2 C4 d4 C5 d5 q2 q5' p2
    have hD : ∀ j : Int, 0 ≤ j → j < l2.length → (rd_T52 l2 j).f4.length ≤ 1048576 := fun j h0 h1 => by
      unfold rd_T52
      rw [List.getD_eq_getElem?_getD, List.getElem?_eq_getElem (show j.toNat < l2.length by omega)]
      exact Nat.le_trans (p2 _ (List.getElem_mem _)) (by omega)
    have hU := Mark.sg_spec l4 r u (Mark.bmark s l2 l5) l4.length 0
    rw [Int.zero_add] at hU
    have m15 : Sound (Pick.at0 4000 w1) 15 (spS s r u (.slice A2 l2.length c2) (.slice A4 l4.length c4) (.slice A5 l5.length c5) (Mark.sg l4 r u (Mark.bmark s l2 l5) l4.length 0)) :=
      sS C2 C4 C5 (fun args w => by kernel_rfl) (fun b' t' w' K2 K4 K5 => by
        obtain ⟨k, h1, _⟩ := Mark.both s b' 0 0 l2 t' 0 l4 l5 (by omega) (by omega) (by omega) hD r u
        exact impl_BatSigned.calls k s b' A2 c2 l2 t' A4 c4 l4 A5 c5 l5 r u _ w' K2 d2 K4 d4 K5 d5 h1)
    have m16 : Sound (Pick.at0 4000 w1) 16 (spS s r u (.slice A2 l2.length c2) (.slice A4 l4.length c4) (.slice A5 l5.length c5) (Mark.sg l4 r u (Mark.bmark s l2 l5) l4.length 0)) :=
      sS C2 C4 C5 (fun args w => by kernel_rfl) (fun b' t' w' K2 K4 K5 => by
        obtain ⟨k, _, h2⟩ := Mark.both s b' 0 0 l2 t' 0 l4 l5 (by omega) (by omega) (by omega) hD r u
        exact spec_BatSigned.calls k s b' A2 c2 l2 t' A4 c4 l4 A5 c5 l5 r u _ w' K2 d2 K4 d4 K5 d5 h2)
    have hmem : ∃ m, MOk (Pick.at0 4000 w1) m ∧ ((A4 = none ∧ l4.length = 0) ∨ ∃ g o, A4 = some ⟨g, o, none⟩ ∧ ∀ i : Nat, i < l4.length → m ⟨g, o + i * 3, none⟩ 3 = some (row41v l4 i)) := by
      rcases hsh with h | ⟨g, o, rfl⟩
      · refine ⟨fun _ _ => none, ?_, .inl h⟩
        intro S N w _ ad n l h
        cases h
      · exact ⟨mrow 3 g o l4.length (row41v l4), mem41 C4, .inr ⟨g, o, rfl, fun i hi => mrow_at (j := 0) hi (by omega) (by omega)⟩⟩
    obtain ⟨m, hM, hm⟩ := hmem
    refine ⟨_, rfl, ⟨fun _ => False, 4000, .tup [.agg [.int s, .int b, .lit (.slice A2 l2.length c2), .int t, .lit (.slice A4 l4.length c4), .lit (.slice A5 l5.length c5)], .int r, .int u], _, by omega, fun k h => h.elim, at0_wt _ _, ?_, ?_, rest5 s b t r u _ _ A4 c4 l4 (fun s => Mark.bmark s l2 l5) _ m (by omega) hm hU⟩, hB1⟩
    · exact Good.okM ⟨m7, m8, sC, m15, m16, trivial⟩ hM
    · exact ⟨_, rfl, ⟨_, rfl, rfl, rfl, ⟨rfl, .inl ⟨_, _, _, rfl⟩⟩, rfl, ⟨rfl, .inl ⟨_, _, _, rfl⟩⟩, ⟨rfl, .inl ⟨_, _, _, rfl⟩⟩, trivial⟩, rfl, rfl, trivial⟩
end Go.Proofs.Ytipfdcmjcelbiaa.Safe
end
