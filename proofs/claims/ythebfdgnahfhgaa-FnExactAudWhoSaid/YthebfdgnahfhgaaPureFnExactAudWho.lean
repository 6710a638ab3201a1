/- AudWho of the program answers as the reference, at lines of their own room: the law's pure statement; no conditions. -/
import Derived.Test.YthebfdgnahfhgaaAllx0
import Derived.Test.YthebfdgnahfhgaaAllx1
import Derived.Test.YthebfdgnahfhgaaAllx2
import Derived.Test.YthebfdgnahfhgaaAllx3
import Derived.Test.YthebfdgnahfhgaaAllx4
import Derived.Test.YthebfdgnahfhgaaSaysFnExactAudWho
set_option linter.unusedVariables false
set_option linter.unusedSimpArgs false
namespace Go.Proofs.Ythebfdgnahfhgaa.Pure
open Go.RowKit Go.Proofs.Ythebfdgnahfhgaa.All Go.Proofs.YthebfdgnahfhgaaW.PrintWords Go.Proofs.YthebfdgnahfhgaaW.PrintLast Go.Proofs.YthebfdgnahfhgaaW.PrintMore

theorem wr {x : Int} (h1 : -9223372036854775808 ≤ x) (h2 : x ≤ 9223372036854775807) : wrap64 x = x := by unfold wrap64; omega
def convT (s : S150) : S83 := ⟨s.f0, ⟨s.f1.f0, s.f1.f1⟩, ⟨s.f2.f0, s.f2.f1⟩, s.f3⟩
theorem toTests_loop (l : List S150) (hl : l.length ≤ 1048576) (d : Nat) : ∀ (k : Nat) (x : List S83) (i : Nat), x.length = l.length → l.length - i = d → i ≤ l.length → (∀ j, j < i → x[j]? = (l.map convT)[j]?) → laws_toSpcTestS.l0 (k + 1 + d) l x i = some (l.map convT) := by
  induction d with
  | zero =>
    intro k x i hx hd hi hM
    simp only [Nat.add_zero, laws_toSpcTestS.l0]
    rw [if_neg (by omega)]
    congr 1
    apply List.ext_getElem?
    intro j
    by_cases hj : j < l.length
    · exact hM j (by omega)
    · rw [List.getElem?_eq_none (by omega), List.getElem?_eq_none (by simp; omega)]
  | succ d ih =>
    intro k x i hx hd hi hM
    rw [show k + 1 + (d + 1) = (k + 1 + d) + 1 by omega]
    simp only [laws_toSpcTestS.l0, laws_toSpcTest.f, laws_toDecDec.f, Option.bind_some]
    rw [if_pos (by omega), if_pos (by omega), if_pos (by omega), wr (x := (i : Int) + 1) (by omega) (by omega)]
    have := ih k (x.set (i : Int).toNat (convT (rd_T150 l i))) (i + 1) (by simp [hx]) (by omega) (by omega) (by
      intro j hj
      rw [Int.toNat_natCast, List.getElem?_set]
      by_cases e : i = j
      · subst e
        rw [if_pos rfl, if_pos (by omega), List.getElem?_map, List.getElem?_eq_getElem (by omega)]
        unfold rd_T150
        rw [List.getD_eq_getElem?_getD, Int.toNat_natCast, List.getElem?_eq_getElem (by omega)]
        rfl
      · rw [if_neg e]
        exact hM j (by omega))
    exact this
theorem to_tests (l : List S150) (hl : l.length ≤ 1048576) (k : Nat) (hk : l.length + 1 ≤ k) : laws_toSpcTestS.f k l = some (l.map convT) := by
  unfold laws_toSpcTestS.f
  rw [if_pos (by omega), if_pos (by omega)]
  have := toTests_loop l hl l.length (k - 1 - l.length) (List.replicate ((l.length : Int) : Int).toNat z83) 0 (by simp) (by omega) (by omega) (by omega)
  rwa [show k - 1 - l.length + 1 + l.length = k by omega] at this
theorem eqTests_loop (l : List S83) (hl : l.length ≤ 4611686018427387904) (d : Nat) : ∀ (k : Nat) (i : Int), 0 ≤ i → (l.length : Int) - i = d → laws_eqSpcTestS.l0 (k + 1 + d) l l i = some true := by
  induction d with
  | zero =>
    intro k i h0 hd
    simp only [Nat.add_zero, laws_eqSpcTestS.l0]
    rw [if_neg (by omega)]
  | succ d ih =>
    intro k i h0 hd
    rw [show k + 1 + (d + 1) = (k + 1 + d) + 1 by omega]
    simp only [laws_eqSpcTestS.l0, laws_eqSpcTest.f, laws_eqDecDec.f, if_true, Option.bind_some]
    rw [if_pos (show i < (l.length : Int) by omega), if_pos h0, if_pos (show i < (l.length : Int) by omega), wr (x := i + 1) (by omega) (by omega)]
    exact ih k (i + 1) (by omega) (by omega)
theorem eqTests_self (l : List S83) (hl : l.length ≤ 4611686018427387904) (k : Nat) (hk : l.length + 1 ≤ k) : laws_eqSpcTestS.f k l l = some true := by
  unfold laws_eqSpcTestS.f
  rw [if_pos rfl]
  have := eqTests_loop l hl l.length (k - 1 - l.length) 0 (by omega) (by omega)
  rwa [show k - 1 - l.length + 1 + l.length = k by omega] at this
def convL (s : S110) : S98 := ⟨⟨s.f0.f0, s.f0.f1, s.f0.f2, s.f0.f3, s.f0.f4, ⟨s.f0.f5.f0, s.f0.f5.f1⟩, s.f0.f6.map convT⟩, s.f1⟩
theorem rdLine_mem (l : List S110) (i : Int) (h0 : 0 ≤ i) (h : i < l.length) : rd_T110 l i ∈ l := by
  unfold rd_T110
  rw [List.getD_eq_getElem?_getD, List.getElem?_eq_getElem (by omega)]
  exact List.getElem_mem _
def lsz (l : List S110) : Nat → Int → Int → Int
  | 0, _, b => b
  | n + 1, i, b => if b - ((rd_T110 l i).f0.f6.length : Int) < 0 then -1 else lsz l n (i + 1) (b - ((rd_T110 l i).f0.f6.length : Int))
theorem lsz_facts (l : List S110) (n : Nat) : ∀ (i b : Int), 0 ≤ b → b ≤ 1048576 → lsz l n i b = -1 ∨ (0 ≤ lsz l n i b ∧ lsz l n i b ≤ 1048576 ∧ ∀ j, i ≤ j → j < i + n → (rd_T110 l j).f0.f6.length ≤ 1048576) := by
  induction n with
  | zero =>
    intro i b h0 h1
    exact Or.inr ⟨h0, h1, fun j a c => by omega⟩
  | succ n ih =>
    intro i b h0 h1
    simp only [lsz]
    by_cases hn : b - ((rd_T110 l i).f0.f6.length : Int) < 0
    · rw [if_pos hn]; exact Or.inl rfl
    · rw [if_neg hn]
      rcases ih (i + 1) (b - ((rd_T110 l i).f0.f6.length : Int)) (by omega) (by omega) with e | ⟨e1, e2, g⟩
      · exact Or.inl e
      · refine Or.inr ⟨e1, e2, fun j a c => ?_⟩
        by_cases q : j = i
        · subst q; omega
        · exact g j (by omega) (by omega)
theorem szLines_loop (l : List S110) (hl : l.length ≤ 1048576) (hG : ∀ z ∈ l, z.f0.f6.length ≤ 9223372036854775807) (d : Nat) : ∀ (k : Nat) (i b : Int), 0 ≤ i → (l.length : Int) - i = d → 0 ≤ b → b ≤ 1048576 →
    laws_szAudLineS.l0 (k + 1 + d) l b i = some (lsz l d i b) := by
  induction d with
  | zero =>
    intro k i b h0 hd hb0 hb
    simp only [Nat.add_zero, laws_szAudLineS.l0, lsz]
    rw [if_neg (by omega)]
  | succ d ih =>
    intro k i b h0 hd hb0 hb
    have hm := hG _ (rdLine_mem l i h0 (by omega))
    rw [show k + 1 + (d + 1) = (k + 1 + d) + 1 by omega]
    simp only [laws_szAudLineS.l0, laws_szAudLine.f, laws_szReqReq.f, laws_szSpcTestS.f, lsz]
    rw [if_pos (by omega), if_pos h0, wr (x := b - ((rd_T110 l i).f0.f6.length : Int)) (by omega) (by omega), wr (x := i + 1) (by omega) (by omega)]
    by_cases hn : b - ((rd_T110 l i).f0.f6.length : Int) < 0
    · rw [if_pos hn, if_pos hn]
      simp
    · rw [if_neg hn, if_neg hn]
      simp only [Option.bind_some]
      rw [if_neg hn]
      simp only [Option.bind_some]
      rw [if_neg hn]
      simp only [Option.bind_some]
      rw [if_neg hn]
      exact ih k (i + 1) _ (by omega) (by omega) (by omega) (by omega)
theorem to_lines_loop (l : List S110) (hl : l.length ≤ 1048576) (hf : ∀ j : Int, 0 ≤ j → j < l.length → (rd_T110 l j).f0.f6.length ≤ 1048576) (d : Nat) : ∀ (k : Nat) (x : List S98) (i : Nat), 1048577 ≤ k → x.length = l.length → l.length - i = d → i ≤ l.length → (∀ j, j < i → x[j]? = (l.map convL)[j]?) → laws_toAudLineS.l0 (k + 1 + d) l x i = some (l.map convL) := by
  induction d with
  | zero =>
    intro k x i hk hx hd hi hM
    simp only [Nat.add_zero, laws_toAudLineS.l0]
    rw [if_neg (by omega)]
    congr 1
    apply List.ext_getElem?
    intro j
    by_cases hj : j < l.length
    · exact hM j (by omega)
    · rw [List.getElem?_eq_none (by omega), List.getElem?_eq_none (by simp; omega)]
  | succ d ih =>
    intro k x i hk hx hd hi hM
    rw [show k + 1 + (d + 1) = (k + 1 + d) + 1 by omega]
    simp only [laws_toAudLineS.l0, laws_toAudLine.f, laws_toReqReq.f, laws_toDecDec.f, Option.bind_some]
    have hq := hf i (by omega) (by omega)
    rw [to_tests _ hq (k + 1 + d) (by omega)]
    simp only [Option.bind_some]
    rw [if_pos (by omega), if_pos (by omega), if_pos (by omega), wr (x := (i : Int) + 1) (by omega) (by omega)]
    have := ih k (x.set (i : Int).toNat (convL (rd_T110 l i))) (i + 1) hk (by simp [hx]) (by omega) (by omega) (by
      intro j hj
      rw [Int.toNat_natCast, List.getElem?_set]
      by_cases e : i = j
      · subst e
        rw [if_pos rfl, if_pos (by omega), List.getElem?_map, List.getElem?_eq_getElem (by omega)]
        unfold rd_T110
        rw [List.getD_eq_getElem?_getD, Int.toNat_natCast, List.getElem?_eq_getElem (by omega)]
        rfl
      · rw [if_neg e]
        exact hM j (by omega))
    exact this
theorem to_lines (l : List S110) (hl : l.length ≤ 1048576) (hf : ∀ j : Int, 0 ≤ j → j < l.length → (rd_T110 l j).f0.f6.length ≤ 1048576) (k : Nat) (hk : l.length + 1048578 ≤ k) : laws_toAudLineS.f k l = some (l.map convL) := by
  unfold laws_toAudLineS.f
  rw [if_pos (by omega), if_pos (by omega)]
  have := to_lines_loop l hl hf l.length (k - 1 - l.length) (List.replicate ((l.length : Int) : Int).toNat z98) 0 (by omega) (by simp) (by omega) (by omega) (by omega)
  rwa [show k - 1 - l.length + 1 + l.length = k by omega] at this
theorem eq_lines_loop (l : List S98) (hl : l.length ≤ 1048576) (hf : ∀ j : Int, 0 ≤ j → j < l.length → (rd_T98 l j).f0.f6.length ≤ 1048576) (d : Nat) : ∀ (k : Nat) (i : Int), 1048577 ≤ k → 0 ≤ i → (l.length : Int) - i = d → laws_eqAudLineS.l0 (k + 1 + d) l l i = some true := by
  induction d with
  | zero =>
    intro k i hk h0 hd
    simp only [Nat.add_zero, laws_eqAudLineS.l0]
    rw [if_neg (by omega)]
  | succ d ih =>
    intro k i hk h0 hd
    rw [show k + 1 + (d + 1) = (k + 1 + d) + 1 by omega]
    have hq := hf i h0 (by omega)
    simp only [laws_eqAudLineS.l0, laws_eqAudLine.f, laws_eqReqReq.f, laws_eqDecDec.f, if_true, Option.bind_some]
    rw [eqTests_self _ (by omega) (k + 1 + d) (by omega)]
    simp only [if_true, Option.bind_some]
    rw [if_pos (show i < (l.length : Int) by omega), if_pos h0, if_pos (show i < (l.length : Int) by omega), wr (x := i + 1) (by omega) (by omega)]
    exact ih k (i + 1) hk (by omega) (by omega)
theorem eq_lines (l : List S98) (hl : l.length ≤ 1048576) (hf : ∀ j : Int, 0 ≤ j → j < l.length → (rd_T98 l j).f0.f6.length ≤ 1048576) (k : Nat) (hk : l.length + 1048578 ≤ k) : laws_eqAudLineS.f k l l = some true := by
  unfold laws_eqAudLineS.f
  rw [if_pos rfl]
  have := eq_lines_loop l hl hf l.length (k - 1 - l.length) 0 (by omega) (by omega) (by omega)
  rwa [show k - 1 - l.length + 1 + l.length = k by omega] at this
theorem swho_loop (l : List S98) (hl : l.length ≤ 1048576) (t : Int) (d : Nat) : ∀ (k : Nat) (x i : Int), 0 ≤ i → (l.length : Int) - i = d → 0 ≤ x → x ≤ i → spec_AudWho.l0 (k + 1 + d) l t x i = some (x + cu (users l) t d i) := by
  induction d with
  | zero =>
    intro k x i h0 hd hx hxi
    rw [Nat.add_zero, spec_AudWho.l0, if_neg (by omega)]
    simp [cu]
  | succ d ih =>
    intro k x i h0 hd hx hxi
    have eu : rd (users l) i = (rd_T98 l i).f0.f0 := by
      unfold rd users rd_T98
      rw [List.getD_eq_getElem?_getD, List.getD_eq_getElem?_getD, List.getElem?_map, List.getElem?_eq_getElem (by omega)]
      rfl
    have ec : cu (users l) t (d + 1) i = (if rd (users l) i = t then 1 else 0) + cu (users l) t d (i + 1) := rfl
    rw [show k + 1 + (d + 1) = (k + 1 + d) + 1 by omega, spec_AudWho.l0, if_pos (by omega), if_pos h0, wr (x := i + 1) (by omega) (by omega), wr (x := x + 1) (by omega) (by omega), ec, eu]
    by_cases c : (rd_T98 l i).f0.f0 = t
    · rw [if_pos c, if_pos c, ih k (x + 1) (i + 1) (by omega) (by omega) (by omega) (by omega), Int.add_assoc]
    · rw [if_neg c, if_neg c, ih k x (i + 1) (by omega) (by omega) (by omega) (by omega), Int.zero_add]
theorem FnExactAudWho : laws_FnExactAudWho.Pure := by
  intro l u hl _
  have b1 : l.length ≤ 9223372036854775807 := Nat.le_trans hl.1 (by decide)
  have b2 : ∀ z ∈ l, z.f0.f6.length ≤ 9223372036854775807 := fun z hz => Nat.le_trans (hl.2 z hz).1.2.2.2.2.2.2.1 (by decide)
  clear hl
  by_cases h : (1048576 - (l.length : Int)) < 0
  · refine ⟨0, ?_⟩
    unfold laws_FnExactAudWho.f laws_szAudLineS.f
    rw [wr (x := 1048576 - (l.length : Int)) (by omega) (by omega), if_pos h]
    simp
  · have h1 : l.length ≤ 1048576 := by omega
    obtain ⟨k, hk⟩ : ∃ k, 2097154 ≤ k := ⟨_, Nat.le_refl _⟩
    refine ⟨k, ?_⟩
    have e := szLines_loop l h1 b2 l.length (k - 1 - l.length) 0 (1048576 - (l.length : Int)) (by omega) (by omega) (by omega) (by omega)
    rw [show k - 1 - l.length + 1 + l.length = k by omega] at e
    have f := lsz_facts l l.length 0 (1048576 - (l.length : Int)) (by omega) (by omega)
    generalize lsz l l.length 0 (1048576 - (l.length : Int)) = v at *
    unfold laws_FnExactAudWho.f laws_szAudLineS.f
    rw [wr (x := 1048576 - (l.length : Int)) (by omega) (by omega), if_neg h, e]
    simp only [Option.bind_some]
    rcases f with rfl | ⟨f1, f2, g⟩
    · simp
    · rw [if_neg (show ¬ v < 0 by omega)]
      have t1 := to_lines l h1 (fun j a b => g j a (by omega)) k (by omega)
      have hL : (l.map convL).length = l.length := by simp
      have g2 : ∀ j : Int, 0 ≤ j → j < (l.map convL).length → (rd_T98 (l.map convL) j).f0.f6.length ≤ 1048576 := by
        intro j a b
        have : rd_T98 (l.map convL) j = convL (rd_T110 l j) := by
          unfold rd_T98 rd_T110
          rw [List.getD_eq_getElem?_getD, List.getD_eq_getElem?_getD, List.getElem?_map, List.getElem?_eq_getElem (by omega)]
          rfl
        rw [this]
        unfold convL
        rw [List.length_map]
        exact g j a (by omega)
      have q := eq_lines (l.map convL) (by omega) g2 k (by omega)
      have s := swho_loop (l.map convL) (by omega) u l.length (k - 1 - l.length) 0 0 (by omega) (by omega) (by omega) (by omega)
      rw [show k - 1 - l.length + 1 + l.length = k by omega, Int.zero_add] at s
      generalize l.map convL = L at *
      have i : impl_AudWho.f L u = some (cu (users L) u l.length 0) := by
        unfold impl_AudWho.f
        rw [if_pos (by omega), hL]
      unfold spec_AudWho.f
      simp only [Option.bind_some, t1, s, i, if_true, q]

end Go.Proofs.Ythebfdgnahfhgaa.Pure
