/- Who stands in an audit's lines: in plain numbers, and the law, run by the typed machine over rows that are known; no conditions but that the code is readable. -/
import Derived.Test.YtipfdcmjcelbiaaAllx9
import Derived.Test.YtipfdcmjcelbiaaPB
section
/-! ## PW: Who stands in an audit's lines, in plain numbers: both programs count the same, and the counts of all users come to no more than the lines; conditions: lengths as in the statements. -/
set_option linter.unusedVariables false
set_option linter.unusedSimpArgs false
namespace Go.Proofs.Ytipfdcmjcelbiaa.Who
open Go Go.RowKit Go.Proofs.Ytipfdcmjcelbiaa.All Go.Proofs.YtipfdcmjcelbiaaW.PrintWords Go.Proofs.YtipfdcmjcelbiaaW.PrintLast Go.Proofs.YtipfdcmjcelbiaaW.PrintMore
theorem wr {x : Int} (h1 : -9223372036854775808 ≤ x) (h2 : x ≤ 9223372036854775807) : wrap64 x = x := by unfold wrap64; omega
theorem swho_loop (l : List S65) (hl : l.length ≤ 1048576) (t : Int) (d : Nat) : ∀ (k : Nat) (x i : Int), 0 ≤ i → (l.length : Int) - i = d → 0 ≤ x → x ≤ i → spec_AudWho.l0 (k + 1 + d) l t x i = some (x + cu (users l) t d i) := by
  induction d with
  | zero =>
    intro k x i h0 hd hx hxi
    rw [Nat.add_zero, spec_AudWho.l0, if_neg (by omega)]
    simp [cu]
  | succ d ih =>
    intro k x i h0 hd hx hxi
    have eu : rd (users l) i = (rd_T65 l i).f0.f0 := by
      unfold rd users rd_T65
      rw [List.getD_eq_getElem?_getD, List.getD_eq_getElem?_getD, List.getElem?_map, List.getElem?_eq_getElem (by omega)]
      rfl
    have ec : cu (users l) t (d + 1) i = (if rd (users l) i = t then 1 else 0) + cu (users l) t d (i + 1) := rfl
    rw [show k + 1 + (d + 1) = (k + 1 + d) + 1 by omega, spec_AudWho.l0, if_pos (by omega), if_pos h0, wr (x := i + 1) (by omega) (by omega), wr (x := x + 1) (by omega) (by omega), ec, eu]
    by_cases c : (rd_T65 l i).f0.f0 = t
    · rw [if_pos c, if_pos c, ih k (x + 1) (i + 1) (by omega) (by omega) (by omega) (by omega), Int.add_assoc]
    · rw [if_neg c, if_neg c, ih k x (i + 1) (by omega) (by omega) (by omega) (by omega), Int.zero_add]
theorem swho (l : List S65) (hl : l.length ≤ 1048576) (t : Int) : ∃ k, spec_AudWho.f k l t = some (cu (users l) t l.length 0) := by
  refine ⟨0 + 1 + l.length, ?_⟩
  unfold spec_AudWho.f
  have := swho_loop l hl t l.length 0 0 0 (by omega) (by omega) (by omega) (by omega)
  rwa [Int.zero_add] at this
theorem iwho (l : List S65) (hl : l.length ≤ 1048576) (t : Int) : impl_AudWho.f l t = some (cu (users l) t l.length 0) := by
  unfold impl_AudWho.f
  rw [if_pos (by omega)]
def sumC (C : Int → Int) : Nat → Int
  | 0 => 0
  | m + 1 => sumC C m + C ((m : Int) + 1)
theorem sum5 (us : List Int) (n : Nat) : ∀ i : Int, cu us 1 n i + cu us 2 n i + cu us 3 n i + cu us 4 n i + cu us 5 n i ≤ n ∧ ((∀ j, i ≤ j → j < i + n → 1 ≤ rd us j ∧ rd us j ≤ 5) → cu us 1 n i + cu us 2 n i + cu us 3 n i + cu us 4 n i + cu us 5 n i = n) := by
  induction n with
  | zero => intro i; simp [cu]
  | succ n ih =>
    intro i
    obtain ⟨h1, h2⟩ := ih (i + 1)
    simp only [cu]
    generalize hx : rd us i = x
    have e : ∀ t : Int, (if x = t then (1 : Int) else 0) = 1 ∧ x = t ∨ (if x = t then (1 : Int) else 0) = 0 ∧ x ≠ t := fun t => by
      by_cases h : x = t
      · exact .inl ⟨if_pos h, h⟩
      · exact .inr ⟨if_neg h, h⟩
    have e1 := e 1
    have e2 := e 2
    have e3 := e 3
    have e4 := e 4
    have e5 := e 5
    generalize (if x = 1 then (1 : Int) else 0) = y1 at *
    generalize (if x = 2 then (1 : Int) else 0) = y2 at *
    generalize (if x = 3 then (1 : Int) else 0) = y3 at *
    generalize (if x = 4 then (1 : Int) else 0) = y4 at *
    generalize (if x = 5 then (1 : Int) else 0) = y5 at *
    refine ⟨by omega, fun h => ?_⟩
    have h6 := h i (by omega) (by omega)
    rw [hx] at h6
    have h7 := h2 (fun j a b => h j (by omega) (by omega))
    omega
theorem sum_bound (C : Int → Int) (L : Int) (hC : ∀ k, 0 ≤ C k ∧ C k ≤ L) (m : Nat) : 0 ≤ sumC C m ∧ sumC C m ≤ m * L := by
  induction m with
  | zero => simp [sumC]
  | succ m ih =>
    have := hC ((m : Int) + 1)
    simp only [sumC]
    rw [show ((m + 1 : Nat) : Int) * L = m * L + L by rw [Int.natCast_add, Int.add_mul]; simp]
    omega
theorem sum_all (us : List Int) : sumC (fun k => cu us k us.length 0) 5 ≤ us.length ∧ ((∀ j : Int, 0 ≤ j → j < us.length → 1 ≤ rd us j ∧ rd us j ≤ 5) → sumC (fun k => cu us k us.length 0) 5 = us.length) := by
  have h := sum5 us us.length 0
  rw [Int.zero_add] at h
  have e : sumC (fun k => cu us k us.length 0) 5 = cu us 1 us.length 0 + cu us 2 us.length 0 + cu us 3 us.length 0 + cu us 4 us.length 0 + cu us 5 us.length 0 := by
    simp [sumC]
  rw [e]
  exact h
end Go.Proofs.Ytipfdcmjcelbiaa.Who
end

section
/-! ## P8: The law of who stands in an audit's lines: the draw, what lies there behind it, and the law's rest run by the typed machine; no conditions but that the code is readable. -/
set_option linter.unusedVariables false
set_option linter.unusedSimpArgs false
set_option maxRecDepth 8000
set_option maxHeartbeats 4000000
namespace Go.Proofs.Ytipfdcmjcelbiaa.Safe
open Go Go.RowKit Go.Proofs.Ytipfdcmjcelbiaa.All Go.Proofs.YtipfdcmjcelbiaaW.PrintWords Go.Proofs.YtipfdcmjcelbiaaW.PrintLast Go.Proofs.YtipfdcmjcelbiaaW.PrintMore
attribute [local go_sem] R_skip R_seq R_ops R_cond R_blk R_exit R_ret K_nil K_sqn K_sqe K_sqr K_bkn K_bke K_bkr K_lpn K_lpe K_lpr Ro_nil O_mv O_pick O_new O_box O_build O_bsl L_ld L_p L_r L_o inI allI tabL O_tab or_false O_st O_fa O_ia L_bin B_lss B_leq B_gtr B_geq B_eql B_neq B_add B_sub B_mul B_quo B_rem B_sadd B_seql B_sneq B_aeql B_aneq B_beql B_bneq Br_t Br_f Br_d decide_true decide_false beq_self_eq_true Bool.true_beq Bool.false_beq O_un O_cvt O_ext O_fld O_slc O_lenf O_lent L_app O_idx Ro_gd G_tt G_ff G_tf G_ft G_u C_t C_f S_eq S_em S_byte S_bad Gk vD vS vA vT vB vQ vL vH vC stD unD S_slc bnd fillA P_s P_n B_t E_t E_c U_at U_am over_cons over_nil allC cellsA cfm lay esz ints scls mk_t mk_f okRs okR finR rv finS p1 pasl pas List.map List.length List.drop List.take List.getD_cons_zero List.getD_cons_succ List.getD_nil List.getElem?_cons_zero List.getElem?_cons_succ List.not_mem_nil List.mem_cons List.nil_append List.cons_append decide_eq_true_eq decide_eq_false_iff_not Bool.not_eq_true' Bool.not_eq_false' Bool.not_true Bool.not_false Bool.not_eq_true Bool.not_eq_false true_and and_true false_and and_false not_false_eq_true not_true_eq_false Bool.true_and Bool.and_true true_or or_true forall_const true_imp_iff false_imp_iff Bool.forall_bool Prod.forall cond_true cond_false eq_self Nat.zero_add Nat.add_zero LIM
theorem g35 {B : Base} (h23 : Sound B 23 sp23) : Sound B 35 sp35 := s35 ⟨h23, (g31 h23), (g46 h23), (g55 h23), trivial⟩
theorem g22 {B : Base} (h23 : Sound B 23 sp23) : Sound B 22 sp22 := s22 ⟨h23, (g29 h23), (g35 h23), trivial⟩
theorem g10 {B : Base} (VA : Option Addr) (vn vc : Nat) (h23 : Sound B 23 sp23) (h18 : Sound B 18 (Open.sp18 VA vn vc)) : Sound B 10 (sp10 VA vn vc) := s10 VA vn vc ⟨(g22 h23), h18, h23, trivial⟩
theorem draw10 {w : World} {A : Option Addr} {c : Nat} {l0 : List Int} (hr0 : Kd.C (Kd.int .u8) w A l0.length l0) (hc0 : l0.length ≤ c) (hb0 : ∀ x ∈ l0, 0 ≤ x ∧ x ≤ 255) : Calls Try.prog 10 #[.slice A l0.length c] w (fun e w' => ∃ v u n N' S', e = .returned (.tuple #[v, .int .i64 u]) ∧ SV S' N' w' (.sl 65 n) v ∧ 4000 ≤ N' ∧ N' ≤ 24002 ∧ WT S' N' w' (Pick.at0 4000 w) ∧ Out (fun _ => False) w S' w') := by
  refine Calls.mono (at0_calls (g10 A l0.length c Pick.s23 (Open.s18 hr0 hc0 hb0)) ⟨rfl, by omega, by omega⟩) ?_
  rintro e w' ⟨v, r, N', S', rfl, ⟨⟨n, u, N2⟩, ⟨⟨p1, p2⟩, p3⟩, hr, hN⟩, h4, hV, hW, hO⟩
  dsimp only at p1 p2 p3 hr hN
  subst hr; subst hN
  obtain ⟨cs, rfl, h⟩ := hV
  obtain ⟨v0, z0, rfl, h0, k0⟩ := F2.c h
  obtain ⟨v1, z1, rfl, h1, k1⟩ := F2.c k0
  obtain rfl := F2.n k1
  obtain rfl := (show v1 = .int .i64 u from h1)
  exact ⟨v0, u, n, _, S', rfl, h0, h4, by omega, hW, hO⟩
/-! ### behind the draw: the rows of tests are typed, all else stays -/
def T49 (S : Nat → Prop) (w : World) (k : Nat) : Prop := S k ∧ ∃ m, Bk w k 49 m
theorem lay49 (j : Nat) (t : CT) (h : (lay 49)[j]? = some t) : t = .bint := by
  have := List.mem_of_getElem? h
  simpa [lay] using this
section
variable {B : Base} {S : Nat → Prop} {N : Nat} {w : World}
theorem wt49 (hW : WT S N w B) : WT (T49 S w) N w ⟨T49 S w, N, w⟩ := by
  intro k hk
  refine ⟨fun hd => hd.2 hk, ?_⟩
  obtain ⟨hS, m, c0, hc0, _⟩ := hk
  rcases (hW k hS).2 with ⟨e, cells, hc, h1, h2, h3⟩ | ⟨A, n, c, p, hc, _⟩
  · rw [hc0] at hc
    injection hc with hc
    injection hc with x1 x2
    subst x1; subst x2
    refine .inl ⟨49, c0, hc0, h1, h2, fun i hi => ?_⟩
    obtain ⟨v, t, e1, e2, e3⟩ := h3 i hi
    obtain rfl := lay49 _ _ e2
    exact ⟨v, _, e1, e2, e3⟩
  · rw [hc0] at hc
    injection hc with hc
    injection hc with x1 x2
    exact absurd x2 (by decide)
theorem slt49 {n c : Nat} {A : Option Addr} (h : SLT S N w 49 n A c) : SLT (T49 S w) N w 49 n A c :=
  ⟨h.1, h.2.1, h.2.2.1, h.2.2.2.imp id (fun ⟨g, q, m, e1, e2, e3, e4⟩ => ⟨g, q, m, e1, ⟨e2, _, e3⟩, e3, e4⟩)⟩
end
abbrev AL : Type := Int × Int × Int × Int × Int × Int × Int × Nat × Int
def vLl (x : AL) : List AV := [.int x.1, .int x.2.1, .int x.2.2.1, .int x.2.2.2.1, .int x.2.2.2.2.1, .int x.2.2.2.2.2.1, .int x.2.2.2.2.2.2.1, .sl 49 x.2.2.2.2.2.2.2.1, .int x.2.2.2.2.2.2.2.2]
section
variable {B : Base} {S : Nat → Prop} {N : Nat} {w : World}
theorem cv65 (cs : List Value) (h : F2 (CV S N w) (lay 65) cs) : ∃ x, F2 (SV (T49 S w) N w) (vLl x) cs := by
  obtain ⟨v0, z0, rfl, ⟨x0, rfl⟩, k0⟩ := F2.c h
  obtain ⟨v1, z1, rfl, ⟨x1, rfl⟩, k1⟩ := F2.c k0
  obtain ⟨v2, z2, rfl, ⟨x2, rfl⟩, k2⟩ := F2.c k1
  obtain ⟨v3, z3, rfl, ⟨x3, rfl⟩, k3⟩ := F2.c k2
  obtain ⟨v4, z4, rfl, ⟨x4, rfl⟩, k4⟩ := F2.c k3
  obtain ⟨v5, z5, rfl, ⟨x5, rfl⟩, k5⟩ := F2.c k4
  obtain ⟨v6, z6, rfl, ⟨x6, rfl⟩, k6⟩ := F2.c k5
  obtain ⟨v7, z7, rfl, ⟨A, n, c, rfl, hs⟩, k7⟩ := F2.c k6
  obtain ⟨v8, z8, rfl, ⟨x8, rfl⟩, k8⟩ := F2.c k7
  obtain rfl := F2.n k8
  exact ⟨(x0, x1, x2, x3, x4, x5, x6, n, x8), rfl, rfl, rfl, rfl, rfl, rfl, rfl, ⟨A, c, rfl, slt49 hs⟩, rfl, trivial⟩
theorem row65 {x : AL} (hx : x.2.2.2.2.2.2.2.1 ≤ 1099511627776) (hW : WT S N w B) (cs : List Value) (h : F2 (SV S N w) (vLl x) cs) : ∃ y : S65, k65.K w y cs ∧ y.f0.f0 = x.1 := by
  obtain ⟨x0, x1, x2, x3, x4, x5, x6, n, x8⟩ := x
  obtain ⟨v0, z0, rfl, h0, k0⟩ := F2.c h
  obtain ⟨v1, z1, rfl, h1, k1⟩ := F2.c k0
  obtain ⟨v2, z2, rfl, h2, k2⟩ := F2.c k1
  obtain ⟨v3, z3, rfl, h3, k3⟩ := F2.c k2
  obtain ⟨v4, z4, rfl, h4, k4⟩ := F2.c k3
  obtain ⟨v5, z5, rfl, h5, k5⟩ := F2.c k4
  obtain ⟨v6, z6, rfl, h6, k6⟩ := F2.c k5
  obtain ⟨v7, z7, rfl, ⟨A, c, rfl, hs⟩, k7⟩ := F2.c k6
  obtain ⟨v8, z8, rfl, h8, k8⟩ := F2.c k7
  obtain rfl := F2.n k8
  obtain rfl := (show v0 = .int .i64 x0 from h0)
  obtain rfl := (show v1 = .int .i64 x1 from h1)
  obtain rfl := (show v2 = .int .i64 x2 from h2)
  obtain rfl := (show v3 = .int .i64 x3 from h3)
  obtain rfl := (show v4 = .int .i64 x4 from h4)
  obtain rfl := (show v5 = .int .i64 x5 from h5)
  obtain rfl := (show v6 = .int .i64 x6 from h6)
  obtain rfl := (show v8 = .int .i64 x8 from h8)
  obtain ⟨l, hl, hC, hc, _⟩ := reads_of (d := k49) (e := 49) (Pr := fun _ => True) rfl row49 hx hW hs
  dsimp only at hl
  subst hl
  exact ⟨⟨⟨x0, x1, x2, x3, x4, ⟨x5, x6⟩, l⟩, x8⟩, k65_mk w ⟨⟨x0, x1, x2, x3, x4, ⟨x5, x6⟩, l⟩, x8⟩ hc hC, rfl⟩
theorem rows_list {α : Type} {d : Kd α} {k n g o : Nat} {Pr : Nat → α → Prop} (hsz : d.sz = k) (hn : n ≤ 9223372036854775807) (h : ∀ i, i < n → ∃ x cs, d.K w x cs ∧ cs.length = k ∧ (∀ j v, cs[j]? = some v → w.cell? ⟨g, o + i * k + j, none⟩ = some v) ∧ Pr i x) : ∃ l : List α, l.length = n ∧ Kd.C d w (some ⟨g, o, none⟩) l.length l ∧ ∀ i, i < n → ∃ x, l[i]? = some x ∧ Pr i x := by
  classical
  rcases Nat.eq_zero_or_pos n with h0 | h0
  · subst h0
    exact ⟨[], rfl, ⟨rfl, by simp, fun h => absurd h (by simp)⟩, fun i hi => by omega⟩
  · have x0 : α := Classical.choose (h 0 h0)
    let f : Nat → α := fun i => if h' : i < n then Classical.choose (h i h') else x0
    have hf : ∀ i, i < n → ∃ cs, d.K w (f i) cs ∧ cs.length = k ∧ (∀ j v, cs[j]? = some v → w.cell? ⟨g, o + i * k + j, none⟩ = some v) ∧ Pr i (f i) := fun i hi => by
      have := Classical.choose_spec (h i hi)
      simp only [f, dif_pos hi]
      exact this
    refine ⟨(List.range n).map f, by simp, ⟨by simp, by simpa using hn, fun _ => ⟨_, rfl, fun j p hj => ?_⟩⟩, fun i hi => ?_⟩
    · have hjn : j < n := by
        rcases Nat.lt_or_ge j n with h | h
        · exact h
        · rw [List.getElem?_eq_none (by simpa using h)] at hj; cases hj
      have hp : f j = p := by simpa [hjn] using hj
      subst hp
      obtain ⟨cs, h1, h2, h3, _⟩ := hf j hjn
      refine ⟨cs, by rw [hsz]; exact h2, h1, fun i u hi => ?_⟩
      rw [Addr_add, hsz, ← Nat.add_assoc]
      exact h3 i u hi
    · obtain ⟨cs, _, _, _, h4⟩ := hf i hi
      exact ⟨f i, by simp [hi], h4⟩
end
/-- An audit as the draw leaves it: what its lines are is known, and stays so. -/
structure Aud (B : Base) (A : Option Addr) (n c : Nat) (L : Nat → AL) : Prop where
  le : n ≤ c
  small : n ≤ 24002
  base : B.N ≤ 24002
  inner : ∀ i, i < n → (L i).2.2.2.2.2.2.2.1 ≤ B.N
  at' : (A = none ∧ n = 0) ∨ ∃ g o, A = some ⟨g, o, none⟩ ∧ ∀ S N w, B.P S N w → ∀ i, i < n → ∃ cs : List Value, F2 (SV S N w) (vLl (L i)) cs ∧ cs.length = 9 ∧ ∀ j v, cs[j]? = some v → w.cell? ⟨g, o + i * 9 + j, none⟩ = some v
theorem aud_of {B : Base} {S : Nat → Prop} {N : Nat} {w : World} (hW : WT S N w B) (hN : N ≤ 24002) {n c : Nat} {A : Option Addr} (hs : SLT S N w 65 n A c) : ∃ L, Aud ⟨T49 S w, N, w⟩ A n c L := by
  have hn := hs.1
  have hc := hs.2.1
  rcases slice_cells hW hs with ⟨rfl, rfl, rfl⟩ | ⟨g, q, vs, rfl, hS, hvl, hcell, hty, cells, m, hbk, _⟩
  · exact ⟨fun _ => (0, 0, 0, 0, 0, 0, 0, 0, 0), Nat.le_refl _, by omega, hN, fun i hi => by omega, .inl ⟨rfl, rfl⟩⟩
  · have he : esz 65 = 9 := rfl
    rw [he] at hvl hcell hty
    have hF : ∀ i, i < n → ∃ x, F2 (SV (T49 S w) N w) (vLl x) ((vs.drop (i * 9)).take 9) := fun i hi => by
      have hb : (i + 1) * 9 ≤ n * 9 := Nat.mul_le_mul_right _ hi
      refine cv65 _ (F2.of ?_ (fun j ty v ht hv => ?_))
      · show 9 = _
        simp
        omega
      · have hj : j < 9 := by
          rcases Nat.lt_or_ge j 9 with h | h
          · exact h
          · rw [List.getElem?_eq_none (by exact h)] at ht; cases ht
        rw [List.getElem?_take_of_lt hj, List.getElem?_drop] at hv
        obtain ⟨t2, h1, h2⟩ := hty _ _ hv
        rw [show (i * 9 + j) % 9 = j by omega, ht] at h1
        injection h1 with h1
        subst h1
        exact h2
    classical
    let L : Nat → AL := fun i => if h : i < n then Classical.choose (hF i h) else (0, 0, 0, 0, 0, 0, 0, 0, 0)
    have hL : ∀ i, i < n → F2 (SV (T49 S w) N w) (vLl (L i)) ((vs.drop (i * 9)).take 9) := fun i hi => by
      have := Classical.choose_spec (hF i hi)
      simp only [L, dif_pos hi]
      exact this
    have hD : (⟨T49 S w, N, w⟩ : Base).D g := ⟨Bk.lt ⟨cells, hbk, rfl⟩, fun ⟨_, m, c0, h1, _⟩ => by
      rw [hbk] at h1
      injection h1 with h1
      injection h1 with x1 x2
      exact absurd x2 (by decide)⟩
    refine ⟨L, hc, by omega, hN, fun i hi => ?_, .inr ⟨g, q * 9, rfl, fun S2 N2 w2 hP i hi => ⟨_, F2.imp (fun _ _ => SV.gro (hP.out.gro hP.n)) (hL i hi), ?_, fun j v hj => ?_⟩⟩⟩
    · obtain ⟨v0, z0, _, h0, k0⟩ := F2.c (hL i hi)
      obtain ⟨v1, z1, _, h1, k1⟩ := F2.c k0
      obtain ⟨v2, z2, _, h2, k2⟩ := F2.c k1
      obtain ⟨v3, z3, _, h3, k3⟩ := F2.c k2
      obtain ⟨v4, z4, _, h4, k4⟩ := F2.c k3
      obtain ⟨v5, z5, _, h5, k5⟩ := F2.c k4
      obtain ⟨v6, z6, _, h6, k6⟩ := F2.c k5
      obtain ⟨v7, z7, _, ⟨A, c, _, hs⟩, k7⟩ := F2.c k6
      exact hs.1
    · have hb : (i + 1) * 9 ≤ n * 9 := Nat.mul_le_mul_right _ hi
      simp
      omega
    · have hj9 : j < 9 := by
        rcases Nat.lt_or_ge j 9 with h | h
        · exact h
        · rw [List.getElem?_eq_none (by simp; omega)] at hj; cases hj
      rw [List.getElem?_take_of_lt hj9, List.getElem?_drop] at hj
      rw [cellSame (w := w) (w' := w2) (hP.keep hD), Nat.add_assoc]
      exact hcell _ _ hj
/-- Its users. -/
def usr (n : Nat) (L : Nat → AL) : List Int := (List.range n).map fun i => (L i).1
theorem usr_len (n : Nat) (L : Nat → AL) : (usr n L).length = n := by simp [usr]
theorem usr_rd {n : Nat} {L : Nat → AL} {i : Nat} (h : i < n) : rd (usr n L) i = (L i).1 := by
  unfold rd usr
  rw [List.getD_eq_getElem?_getD, List.getElem?_map, Int.toNat_natCast, List.getElem?_range h]
  rfl
theorem Aud.list {B : Base} {A : Option Addr} {n c : Nat} {L : Nat → AL} (h : Aud B A n c L) {S : Nat → Prop} {N : Nat} {w : World} (hP : B.P S N w) (hW : WT S N w B) : ∃ l : List S65, l.length = n ∧ Kd.C k65 w A l.length l ∧ users l = usr n L := by
  rcases h.at' with ⟨rfl, rfl⟩ | ⟨g, o, rfl, hat⟩
  · exact ⟨[], rfl, ⟨rfl, by simp, fun h => absurd h (by simp)⟩, rfl⟩
  · obtain ⟨l, hl, hC, hu⟩ := rows_list (w := w) (d := k65) (k := 9) (n := n) (g := g) (o := o) (Pr := fun i y => y.f0.f0 = (L i).1) rfl (by have := h.small; omega) (fun i hi => by
      obtain ⟨cs, h1, h2, h3⟩ := hat S N w hP i hi
      obtain ⟨y, hy, hx⟩ := row65 (by have := h.inner i hi; have := h.base; omega) hW cs h1
      exact ⟨y, cs, hy, h2, h3, hx⟩)
    refine ⟨l, hl, hC, ?_⟩
    unfold users usr
    apply List.ext_getElem?
    intro i
    rw [List.getElem?_map, List.getElem?_map]
    by_cases hi : i < n
    · obtain ⟨y, hy, hx⟩ := hu i hi
      rw [hy, List.getElem?_range hi]
      simp [hx]
    · rw [List.getElem?_eq_none (by omega), List.getElem?_eq_none (by simp; omega)]
      rfl
theorem Aud.mem {B : Base} {A : Option Addr} {n c : Nat} {L : Nat → AL} (h : Aud B A n c L) : ∃ m, MOk B m ∧ ((A = none ∧ n = 0) ∨ ∃ g o, A = some ⟨g, o, none⟩ ∧ ∀ i j k, i < n → j + k ≤ 9 → 0 < k → m ⟨g, o + i * 9 + j, none⟩ k = some (((vLl (L i)).drop j).take k)) := by
  rcases h.at' with h0 | ⟨g, o, rfl, hat⟩
  · refine ⟨fun _ _ => none, ?_, .inl h0⟩
    intro S N w _ ad n l h
    cases h
  · exact ⟨mrow 9 g o n (fun i => vLl (L i)), mrow_ok (by omega) hat, .inr ⟨g, o, rfl, fun i j k hi hj hk => mrow_at hi hj hk⟩⟩
/-! ### the contracts that the law leans on -/
abbrev spW (V : Value) (C : Int → Int) : Safe.Spec := mkS (α := Int) (fun l N => match l with | [.lit v, .int k] => v = V | _ => False) (fun l N x => match l with | [.lit v, .int k] => x = C k | _ => False) .int (fun l N x => N) (by intro l N h; split at h <;> first | exact h.elim | exact ⟨_, rfl, Nat.le_refl _⟩)
theorem sW {f : Nat} {B : Base} {A : Option Addr} {n c : Nat} {L : Nat → AL} (h : Aud B A n c L) (hcall : ∀ (args : Array Value) (w : World), (callFunc f args).run Try.prog w = .ok (.enter f args) w)
    (hc : ∀ (l : List S65) (k : Int) (w : World), l.length ≤ 1048576 → Kd.C k65 w A l.length l → l.length ≤ c → Calls Try.prog f #[.slice A l.length c, .int .i64 k] w (fun e w' => e = .returned (.int .i64 (cu (users l) k l.length 0)) ∧ Below w.heap.size w w')) :
    Sound B f (spW (.slice A n c) (fun k => cu (usr n L) k (usr n L).length 0)) := by
  refine below_sound hcall (fun l N S w vs hpre hP hW hvs => ?_)
  dsimp only [spW, mkS] at hpre ⊢
  split at hpre
  case h_2 => exact hpre.elim
  rename_i v k
  subst hpre
  obtain ⟨vl⟩ := vs
  obtain ⟨q0, z, e0, h0, k0⟩ := F2.c hvs
  obtain ⟨q1, z, rfl, h1, k1⟩ := F2.c k0
  obtain rfl := F2.n k1
  obtain rfl := (show q1 = .int .i64 k from h1)
  obtain ⟨rfl, _⟩ := (show SV S N w (.lit (.slice A n c)) q0 from h0)
  obtain rfl : vl = _ := e0
  obtain ⟨ls, hl, hC, hu⟩ := h.list hP hW
  have := hc ls k w (by have := h.small; omega) hC (by have := h.le; omega)
  rw [hu, hl] at this
  rw [usr_len]
  exact ⟨.int _, .int .i64 _, ⟨_, rfl, rfl, rfl⟩, fun w' => rfl, this⟩
theorem fnM {B : Base} {f : Nat} {G : List (Nat × Safe.Spec)} {m : Addr → Nat → Option (List AV)} {α : Type} {pre : List AV → Nat → Prop} {P : List AV → Nat → α → Prop} {f' : α → AV} {g : List AV → Nat → α → Nat} {hh : ∀ l N, pre l N → ∃ x, P l N x ∧ N ≤ g l N x} (fn : Func) (p : ACode) (rs : List AR) (hG : Good B G) (hM : MOk B m) (hf : Try.prog.funcs[f]? = some fn) (hcall : ∀ (args : Array Value) (w : World), (callFunc f args).run Try.prog w = .ok (.enter f args) w) (hp : fn.body.bind (ann fn.ntmps) = some p) (hr : annRs fn.results.toList = some rs) (hl : ∀ l N, pre l N → l.length ≤ fn.ntmps) (h : ∀ l N, pre l N → 16 ≤ N → Run (lkM G m) p [] (finS P f' g l N rs) (Go0 l N)) : Sound B f (mkS pre P f' g hh) := by
  obtain ⟨c, hb, hp⟩ := Option.bind_eq_some_iff.1 hp
  refine fn_sound (hG.okM hM) hf hcall hb hp hr hl (fun l N h1 h2 => awp_mono p ?_ (h l N h1 h2))
  intro e s he
  cases e with
  | exit i => exact he.elim
  | norm => exact ⟨he.1, he.2.1, let ⟨x, h1, h2, h3⟩ := he.2.2; ⟨x, h1, h2, h3⟩⟩
  | ret => exact ⟨he.1, he.2.1, let ⟨x, h1, h2, h3⟩ := he.2.2; ⟨x, h1, h2, h3⟩⟩
def p13 : ACode := (.seq (.ops [⟨(some 2), none, (.mv (.c (.bool false)))⟩]) (.seq (.seq (.ops [⟨(some 5), none, (.mv (.t 0))⟩, ⟨(some 6), none, (.len false (.t 5))⟩, ⟨(some 7), none, (.bin .gtr 3 (.t 6) (.c (.int 120)))⟩]) (.cond (.t 7) (.seq (.ops [⟨(some 2), none, (.mv (.c (.bool false)))⟩]) .ret) .skip)) (.seq (.ops [⟨(some 3), none, (.mv (.c (.int 0)))⟩]) (.seq (.seq (.ops [⟨(some 4), none, (.mv (.c (.int 0)))⟩]) (.blk 0 (.loop (.seq (.seq (.ops [⟨(some 8), none, (.mv (.t 4))⟩, ⟨(some 9), none, (.mv (.t 0))⟩, ⟨(some 10), none, (.len false (.t 9))⟩, ⟨(some 11), none, (.bin .lss 3 (.t 8) (.t 10))⟩]) (.cond (.t 11) .skip (.exit 0))) (.seq (.blk 1 (.seq (.seq (.ops [⟨(some 14), none, (.mv (.t 0))⟩, ⟨(some 15), none, (.mv (.t 4))⟩, ⟨(some 16), none, (.ia 65 (.t 14) (.t 15))⟩, ⟨(some 17), none, (.fa 0 (.t 16))⟩, ⟨(some 18), none, (.ld 8 true true [] (.t 17))⟩, ⟨(some 19), none, (.call 27 [(.t 18)])⟩, ⟨(some 20), none, (.un .not (.t 19))⟩, ⟨(some 21), none, (.mv (.t 20))⟩, ⟨(some 22), (some (21, false)), (.mv (.t 0))⟩, ⟨(some 23), (some (21, false)), (.mv (.t 4))⟩, ⟨(some 24), (some (21, false)), (.ia 65 (.t 22) (.t 23))⟩, ⟨(some 25), (some (21, false)), (.fa 8 (.t 24))⟩, ⟨(some 26), (some (21, false)), (.ld 1 false false [] (.t 25))⟩, ⟨(some 27), (some (21, false)), (.mv (.t 3))⟩, ⟨(some 28), (some (21, false)), (.mv (.t 0))⟩, ⟨(some 29), (some (21, false)), (.mv (.t 4))⟩, ⟨(some 30), (some (21, false)), (.ia 65 (.t 28) (.t 29))⟩, ⟨(some 31), (some (21, false)), (.fa 0 (.t 30))⟩, ⟨(some 32), (some (21, false)), (.ld 8 true true [] (.t 31))⟩, ⟨(some 33), (some (21, false)), (.call 28 [(.t 27), (.t 32)])⟩, ⟨(some 34), (some (21, false)), (.bin .neq 3 (.t 26) (.t 33))⟩, ⟨(some 35), none, (.pick (.t 21) (.c (.bool true)) (.t 34))⟩]) (.cond (.t 35) (.seq (.ops [⟨(some 2), none, (.mv (.c (.bool false)))⟩]) .ret) .skip)) (.ops [⟨(some 36), none, (.mv (.t 0))⟩, ⟨(some 37), none, (.mv (.t 4))⟩, ⟨(some 38), none, (.ia 65 (.t 36) (.t 37))⟩, ⟨(some 39), none, (.fa 8 (.t 38))⟩, ⟨(some 40), none, (.ld 1 false true [] (.t 39))⟩, ⟨(some 3), none, (.mv (.t 40))⟩]))) (.ops [⟨(some 12), none, (.mv (.t 4))⟩, ⟨(some 13), none, (.bin .add 3 (.t 12) (.c (.int 1)))⟩, ⟨(some 4), none, (.mv (.t 13))⟩])))))) (.seq (.ops [⟨(some 2), none, (.mv (.c (.bool true)))⟩]) .ret)))))
abbrev spO (V : Value) (NB : Nat) (OK : Prop) : Safe.Spec := mkS (α := Bool) (fun l N => match l with | [.lit v] => v = V ∧ NB ≤ N ∧ N ≤ 1099511627776 | _ => False) (fun l N x => match l with | [.lit v] => x = true → OK | _ => False) .bool (fun l N x => N) (by intro l N h; split at h <;> first | exact h.elim | exact ⟨false, fun h => Bool.noConfusion h, Nat.le_refl _⟩)
theorem sO {B : Base} {A : Option Addr} {n c NB : Nat} {m : Addr → Nat → Option (List AV)} (hM : MOk B m) (L : Nat → AL) (hnn : n ≤ 24002) (hL : ∀ i, i < n → (L i).2.2.2.2.2.2.2.1 ≤ NB) (hs : (A = none ∧ n = 0) ∨ ∃ g o, A = some ⟨g, o, none⟩ ∧ ∀ i j k, i < n → j + k ≤ 9 → 0 < k → m ⟨g, o + i * 9 + j, none⟩ k = some (((vLl (L i)).drop j).take k)) :
    Sound B 13 (spO (.slice A n c) NB (∀ i : Nat, i < n → 1 ≤ (L i).1 ∧ (L i).1 ≤ 5)) := by
  have hG : Good B [(27, sp27), (28, sp28)] := ⟨g27, g28, trivial⟩
  refine fnM Try.f13 p13 [(.t 2)] hG hM (by kernel_rfl) (fun args w => by kernel_rfl) (by kernel_rfl) (by kernel_rfl) (fun l N h => by split at h <;> first | exact h.elim | exact Nat.le_of_ble_eq_true rfl) (fun l N h hN => ?_)
  split at h
  case h_2 => exact h.elim
  rename_i v
  obtain ⟨rfl, hNB, hN2⟩ := h
  generalize hg : lkM [(27, sp27), (28, sp28)] m = G
  have hm : G.m = m := by rw [← hg]; rfl
  have h27 : G.f 27 = some sp27 := by rw [← hg]; rfl
  have h28 : G.f 28 = some sp28 := by rw [← hg]; rfl
  clear hg
  simp only [p13, Go0]
  simp (maxSteps := 100000000) only [go_sem, Int.reduceBEq, reduceIte, Nat.reduceEqDiff, Nat.reduceAdd, Nat.reduceSub, Nat.reduceLeDiff, Nat.reduceLT, Int.reduceLE, Int.reduceLT, Int.reduceNeg, Int.reduceEq, reduceCtorEq, O_call h27, O_call h28, L_l, lenL, faL, iaL]
  refine ⟨fun _ => ⟨Nat.le_refl _, false, fun h => Bool.noConfusion h, rfl⟩, fun hle => ?_⟩
  refine R_loop (α := Int × Int) (fun x => [(0, .lit (.slice A n c)), (3, .int x.1), (4, .int x.2)]) (fun x => []) (fun x N' => N' = N ∧ 0 ≤ x.2 ∧ x.2 ≤ (n : Int) ∧ ∀ i : Nat, (i : Int) < x.2 → 1 ≤ (L i).1 ∧ (L i).1 ≤ 5) (fun x => ((n : Int) - x.2).toNat) (0, 0) (hc rfl (hc rfl (hc rfl hn))) hn ⟨rfl, by omega, by omega, fun i hi => by omega⟩ ?_
  rintro ⟨q, i⟩ T1 M1 N1 R1 hF1 hR1
  try dsimp only at hF1 hR1
  obtain ⟨rfl, hi0, hi1, hok⟩ := hF1
  rcases hs with ⟨rfl, h0⟩ | ⟨g, o, rfl, hmem⟩
  · simp (maxSteps := 100000000) only [go_sem, Int.reduceBEq, reduceIte, Nat.reduceEqDiff, Nat.reduceAdd, Nat.reduceSub, Nat.reduceLeDiff, Nat.reduceLT, Int.reduceLE, Int.reduceLT, Int.reduceNeg, Int.reduceEq, reduceCtorEq, O_call h27, O_call h28, L_l, lenL, faL, iaL]
    refine ⟨fun hlt => by omega, fun hge => ⟨Nat.le_refl _, true, fun _ j hj => by omega, rfl⟩⟩
  · have ew : i < (n : Int) → wrap64 (i + 1) = i + 1 := fun _ => wr (by omega) (by omega)
    by_cases hlt : i < (n : Int)
    · have ej : ((i.toNat : Nat) : Int) = i := Int.toNat_of_nonneg hi0
      have z8 := hmem i.toNat 0 8 (by omega) (by omega) (by omega)
      have z1 := hmem i.toNat 8 1 (by omega) (by omega) (by omega)
      have hin := hL i.toNat (by omega)
      rw [← hm] at z8 z1
      generalize hx : L i.toNat = x at z8 z1 hin
      obtain ⟨x0, x1, x2, x3, x4, x5, x6, x7, x8⟩ := x
      simp only [vLl, List.drop, List.take, Nat.add_zero] at z8 z1 hin
      have e8 : ∀ (ag : Bool) (d : Option Nat) (r : List AOper) (ks : List Fr) (Q : AExit → AS → Prop) (T : Nat → AV) (M : Nat → Nat × List AV) (N : Nat), St G (ldL G.m 8 ag (.pointer (some ⟨g, o + i.toNat * 9, none⟩))) d ⟨T, M, N⟩ r ks Q = Ro G r ks Q ⟨putA T d (mk ag [.int x0, .int x1, .int x2, .int x3, .int x4, .int x5, .int x6, .sl 49 x7]), M, N⟩ := fun ag d r ks Q T M N => S_lp _ _ _ _ _ _ z8
      have e1 : ∀ (ag : Bool) (d : Option Nat) (r : List AOper) (ks : List Fr) (Q : AExit → AS → Prop) (T : Nat → AV) (M : Nat → Nat × List AV) (N : Nat), St G (ldL G.m 1 ag (.pointer (some ⟨g, o + i.toNat * 9 + 8, none⟩))) d ⟨T, M, N⟩ r ks Q = Ro G r ks Q ⟨putA T d (mk ag [.int x8]), M, N⟩ := fun ag d r ks Q T M N => S_lp _ _ _ _ _ _ z1
      have ew := ew hlt
      simp (maxSteps := 100000000) only [go_sem, Int.reduceBEq, reduceIte, Nat.reduceEqDiff, Nat.reduceAdd, Nat.reduceSub, Nat.reduceLeDiff, Nat.reduceLT, Int.reduceLE, Int.reduceLT, Int.reduceNeg, Int.reduceEq, reduceCtorEq, O_call h27, O_call h28, L_l, lenL, faL, iaL, e8, e1, ew]
      refine ⟨fun _ => ⟨⟨hi0, hlt⟩, ⟨by omega, by omega⟩, fun _ => ⟨Nat.le_refl _, false, fun h => Bool.noConfusion h, rfl⟩, fun hk _ => ⟨⟨hi0, hlt⟩, ⟨hi0, hlt⟩, ⟨by omega, by omega, by omega⟩, fun y _ => ⟨fun _ => ⟨Nat.le_refl _, false, fun h => Bool.noConfusion h, rfl⟩, fun _ => ⟨⟨hi0, hlt⟩, ?_⟩⟩⟩⟩, fun h => absurd hlt h⟩
      refine hR1 (x8, i + 1) _ (by dsimp only; omega) (hc rfl (hc rfl (hc rfl hn))) hn ⟨rfl, by dsimp only; omega, by dsimp only; omega, fun j hj => ?_⟩
      by_cases e : j = i.toNat
      · subst e
        rw [hx]
        exact hk.1.1
      · exact hok j (by dsimp only at hj; omega)
    · simp (maxSteps := 100000000) only [go_sem, Int.reduceBEq, reduceIte, Nat.reduceEqDiff, Nat.reduceAdd, Nat.reduceSub, Nat.reduceLeDiff, Nat.reduceLT, Int.reduceLE, Int.reduceLT, Int.reduceNeg, Int.reduceEq, reduceCtorEq, O_call h27, O_call h28, L_l, lenL, faL, iaL]
      exact ⟨fun h => absurd h hlt, fun _ => ⟨Nat.le_refl _, true, fun _ j hj => hok j (by omega), rfl⟩⟩
def r4 : List AOper := [⟨(some 10), none, (.mv (.t 12))⟩, ⟨(some 13), none, (.ext 0 (.t 10))⟩, ⟨(some 14), none, (.ext 1 (.t 10))⟩, ⟨(some 3), none, (.mv (.t 13))⟩, ⟨(some 4), none, (.mv (.t 14))⟩]
def q4 : ACode := (.seq (.seq (.ops [⟨(some 15), none, (.mv (.t 3))⟩, ⟨(some 16), none, (.mv (.t 4))⟩, ⟨(some 17), none, (.call 11 [(.t 15), (.t 16)])⟩, ⟨(some 18), none, (.mv (.t 3))⟩, ⟨(some 19), none, (.mv (.t 4))⟩, ⟨(some 20), none, (.call 12 [(.t 18), (.t 19)])⟩, ⟨(some 21), none, (.bin .neq 3 (.t 17) (.t 20))⟩]) (.cond (.t 21) (.seq (.ops [⟨(some 2), none, (.mv (.c (.bool false)))⟩]) .ret) .skip)) (.seq (.ops [⟨(some 5), none, (.mv (.c (.int 0)))⟩]) (.seq (.seq (.ops [⟨(some 6), none, (.mv (.c (.int 1)))⟩]) (.blk 0 (.loop (.seq (.seq (.ops [⟨(some 22), none, (.mv (.t 6))⟩, ⟨(some 23), none, (.bin .leq 3 (.t 22) (.c (.int 5)))⟩]) (.cond (.t 23) .skip (.exit 0))) (.seq (.blk 1 (.ops [⟨(some 26), none, (.mv (.t 5))⟩, ⟨(some 27), none, (.mv (.t 3))⟩, ⟨(some 28), none, (.mv (.t 6))⟩, ⟨(some 29), none, (.call 11 [(.t 27), (.t 28)])⟩, ⟨(some 30), none, (.bin .add 3 (.t 26) (.t 29))⟩, ⟨(some 5), none, (.mv (.t 30))⟩])) (.ops [⟨(some 24), none, (.mv (.t 6))⟩, ⟨(some 25), none, (.bin .add 3 (.t 24) (.c (.int 1)))⟩, ⟨(some 6), none, (.mv (.t 25))⟩])))))) (.seq (.ops [⟨(some 31), none, (.mv (.t 3))⟩, ⟨(some 32), none, (.call 13 [(.t 31)])⟩, ⟨(some 33), none, (.un .not (.t 32))⟩, ⟨(some 34), none, (.mv (.t 33))⟩, ⟨(some 35), (some (34, false)), (.mv (.t 5))⟩, ⟨(some 36), (some (34, false)), (.mv (.t 3))⟩, ⟨(some 37), (some (34, false)), (.len false (.t 36))⟩, ⟨(some 38), (some (34, false)), (.bin .eql 3 (.t 35) (.t 37))⟩, ⟨(some 39), none, (.pick (.t 34) (.c (.bool true)) (.t 38))⟩, ⟨(some 40), none, (.mv (.t 39))⟩, ⟨(some 41), (some (40, true)), (.mv (.t 5))⟩, ⟨(some 42), (some (40, true)), (.mv (.t 3))⟩, ⟨(some 43), (some (40, true)), (.len false (.t 42))⟩, ⟨(some 44), (some (40, true)), (.bin .leq 3 (.t 41) (.t 43))⟩, ⟨(some 45), none, (.pick (.t 40) (.t 44) (.c (.bool false)))⟩, ⟨(some 46), none, (.mv (.t 45))⟩, ⟨(some 47), (some (46, true)), (.call 9 [])⟩, ⟨(some 48), none, (.pick (.t 46) (.t 47) (.c (.bool false)))⟩, ⟨(some 2), none, (.mv (.t 48))⟩]) .ret))))
theorem rest4 (u : Int) (V : Value) (A : Option Addr) (n c NB : Nat) (C : Int → Int) (OK : Prop) (hV : V = .slice A n c) (hNB : NB ≤ 24002) (hC : ∀ k, 0 ≤ C k ∧ C k ≤ 24002) (hsum : Who.sumC C 5 ≤ n ∧ (OK → Who.sumC C 5 = n)) :
    aops (lkG [(9, spC), (11, spW V C), (12, spW V C), (13, spO V NB OK)]) r4 ⟨upd (fun _ => .any) 12 (.tup [.lit V, .int u]), fun _ => (0, []), NB⟩ (awp (lkG [(9, spC), (11, spW V C), (12, spW V C), (13, spO V NB OK)]) q4 tru) := by
  subst hV
  generalize hg : lkG [(9, spC), (11, spW (.slice A n c) C), (12, spW (.slice A n c) C), (13, spO (.slice A n c) NB OK)] = G
  have h9 : G.f 9 = some spC := by rw [← hg]; rfl
  have h11 : G.f 11 = some (spW (.slice A n c) C) := by rw [← hg]; rfl
  have h12 : G.f 12 = some (spW (.slice A n c) C) := by rw [← hg]; rfl
  have h13 : G.f 13 = some (spO (.slice A n c) NB OK) := by rw [← hg]; rfl
  clear hg
  show Ro G r4 [.sq q4] tru _
  simp only [r4, q4]
  simp (maxSteps := 100000000) only [go_sem, Int.reduceBEq, reduceIte, Nat.reduceEqDiff, Nat.reduceAdd, Nat.reduceSub, Nat.reduceLeDiff, Nat.reduceLT, Int.reduceLE, Int.reduceLT, Int.reduceNeg, Int.reduceEq, reduceCtorEq, O_call h9, O_call h11, O_call h12, O_call h13, tru, forall_eq, L_l, lenL, faL]
  intro _ _
  refine R_loop (α := Int × Int) (fun x => [(3, .lit (.slice A n c)), (5, .int x.1), (6, .int x.2)]) (fun x => []) (fun x N' => N' = NB ∧ 1 ≤ x.2 ∧ x.2 ≤ 6 ∧ x.1 = Who.sumC C (x.2 - 1).toNat) (fun x => (6 - x.2).toNat) (0, 1) (hc rfl (hc rfl (hc rfl hn))) hn ⟨rfl, by decide, by decide, rfl⟩ ?_
  rintro ⟨a, k⟩ T1 M1 N1 R1 hF1 hR1
  try dsimp only at hF1 hR1
  obtain ⟨rfl, hk1, hk6, ha⟩ := hF1
  have hb := Who.sum_bound C 24002 hC (k - 1).toNat
  have hck := hC k
  by_cases hk : k ≤ 5
  · have ew1 : wrap64 (a + C k) = a + C k := wr (by omega) (by omega)
    have ew2 : wrap64 (k + 1) = k + 1 := wr (by omega) (by omega)
    simp (maxSteps := 100000000) only [go_sem, Int.reduceBEq, reduceIte, Nat.reduceEqDiff, Nat.reduceAdd, Nat.reduceSub, Nat.reduceLeDiff, Nat.reduceLT, Int.reduceLE, Int.reduceLT, Int.reduceNeg, Int.reduceEq, reduceCtorEq, O_call h9, O_call h11, O_call h12, O_call h13, tru, forall_eq, L_l, lenL, faL, ew1, ew2]
    refine ⟨fun _ _ => hR1 (a + C k, k + 1) _ (by dsimp only; omega) (hc rfl (hc rfl (hc rfl hn))) hn ⟨rfl, by dsimp only; omega, by dsimp only; omega, ?_⟩, fun h => absurd hk h⟩
    dsimp only
    rw [show (k + 1 - 1).toNat = (k - 1).toNat + 1 by omega]
    simp only [Who.sumC]
    rw [← ha, show (((k - 1).toNat : Nat) : Int) + 1 = k by omega]
  · have e6 : k = 6 := by omega
    subst e6
    simp (maxSteps := 100000000) only [go_sem, Int.reduceBEq, reduceIte, Nat.reduceEqDiff, Nat.reduceAdd, Nat.reduceSub, Nat.reduceLeDiff, Nat.reduceLT, Int.reduceLE, Int.reduceLT, Int.reduceNeg, Int.reduceEq, reduceCtorEq, O_call h9, O_call h11, O_call h12, O_call h13, tru, forall_eq, L_l, lenL, faL]
    have e5 : a = Who.sumC C 5 := ha
    refine ⟨⟨Nat.le_refl _, by omega⟩, fun _ => ⟨fun _ _ => trivial, fun h => absurd (by rw [e5]; exact hsum.1) h⟩, fun hO _ => ⟨fun _ => ⟨fun _ _ => trivial, fun h => absurd (by rw [e5]; exact hsum.1) h⟩, fun h => absurd (by rw [e5]; exact hsum.2 hO) h⟩⟩
theorem law4 {W : World} {A : Option Addr} {c : Nat} {l0 : List Int} (hr0 : Kd.C (Kd.int .u8) W A l0.length l0) (hc0 : l0.length ≤ c) (hb0 : ∀ x ∈ l0, 0 ≤ x ∧ x ≤ 255) : Calls Try.prog 4 #[.slice A l0.length c] W (fun e w' => e = .returned (.bool true) ∧ Below W.heap.size W w') := by
  refine law_run (D := 10) (m := 11) (d := 12) (p := 7) (q := 8) (r := 9) (fn := Try.f4) (Ca := cA (body Try.f4)) (Cb := cA (cB (body Try.f4))) (Cr := cB (cB (cB (body Try.f4)))) (id := cI (cA (cB (cB (body Try.f4))))) (ops := cO (cA (cB (cB (body Try.f4))))) (R := r4) (idx := [2, 3, 4, 5, 6]) (pr := q4)
    (by kernel_rfl) (by kernel_rfl) (by kernel_rfl) (Nat.le_of_ble_eq_true (by kernel_rfl)) (by kernel_rfl) (by kernel_rfl) (by kernel_rfl) (by omega) (by omega) (by omega) (by kernel_rfl) (by kernel_rfl) (by kernel_rfl) ?_ (Nat.le_of_ble_eq_true (by kernel_rfl)) (fun args w => by kernel_rfl) ?_
  · refine ⟨(cO (cA (cB (cB (body Try.f4))))).getD 1 default, by kernel_rfl, by kernel_rfl, by kernel_rfl, #[22], by kernel_rfl⟩
  · intro w hB
    refine Calls.mono (draw10 (Kd.C_below hr0 hB) hc0 hb0) ?_
    rintro e w1 ⟨v, u, n, N', S', rfl, ⟨A1, c1, rfl, hs⟩, h4, hN, hW, hO⟩
    obtain ⟨L, hA⟩ := aud_of hW hN hs
    obtain ⟨m, hM, hm⟩ := hA.mem
    have m11 : Sound ⟨T49 S' w1, N', w1⟩ 11 (spW (.slice A1 n c1) (fun k => cu (usr n L) k (usr n L).length 0)) := sW hA (fun args w => by kernel_rfl) (fun l k w hl hC hc => impl_AudWho.calls A1 c1 l k _ w hC hc (Who.iwho l hl k))
    have m12 : Sound ⟨T49 S' w1, N', w1⟩ 12 (spW (.slice A1 n c1) (fun k => cu (usr n L) k (usr n L).length 0)) := sW hA (fun args w => by kernel_rfl) (fun l k w hl hC hc => by
      obtain ⟨q, hq⟩ := Who.swho l hl k
      refine Calls.mono (spec_AudWho.calls q A1 c1 l k _ w hC hc hq) ?_
      rintro e w' ⟨rfl, hd⟩
      exact ⟨rfl, hd.below⟩)
    have m13 : Sound ⟨T49 S' w1, N', w1⟩ 13 (spO (.slice A1 n c1) N' (∀ i : Nat, i < n → 1 ≤ (L i).1 ∧ (L i).1 ≤ 5)) := sO hM L hA.small hA.inner hm
    have hsum := Who.sum_all (usr n L)
    have hbd : ∀ k, 0 ≤ cu (usr n L) k (usr n L).length 0 ∧ cu (usr n L) k (usr n L).length 0 ≤ 24002 := fun k => by
      have h1 := cu_nonneg (usr n L) k (usr n L).length 0
      have h2 := usr_len n L
      have h3 := hA.small
      omega
    refine ⟨_, rfl, ⟨T49 S' w1, N', .tup [.lit (.slice A1 n c1), .int u], _, by omega, fun k hk => ?_, wt49 hW, ?_, ?_, rest4 u _ A1 n c1 N' (fun k => cu (usr n L) k (usr n L).length 0) (∀ i : Nat, i < n → 1 ≤ (L i).1 ∧ (L i).1 ≤ 5) rfl hN hbd ⟨?_, fun h => ?_⟩⟩, out_below hO⟩
    · rcases hO.new k hk.1 with h | h
      · exact h.elim
      · have := hB.size
        omega
    · exact Good.ok ⟨sC, m11, m12, m13, trivial⟩
    · exact ⟨_, rfl, ⟨rfl, .inl ⟨_, _, _, rfl⟩⟩, rfl, trivial⟩
    · have := hsum.1
      have h2 := usr_len n L
      omega
    · have h2 := usr_len n L
      have := hsum.2 (fun j h0 h1 => by
        have e := usr_rd (n := n) (L := L) (i := j.toNat) (by omega)
        rw [Int.toNat_of_nonneg h0] at e
        rw [e]
        exact h j.toNat (by omega))
      omega
end Go.Proofs.Ytipfdcmjcelbiaa.Safe
end
