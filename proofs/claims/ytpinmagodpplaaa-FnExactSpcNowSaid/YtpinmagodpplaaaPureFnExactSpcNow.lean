/- SpcNow of the program answers as the reference, at specifications of their own room: the law's pure statement; no conditions. -/
import Derived.Test.YtpinmagodpplaaaAllx0
import Derived.Test.YtpinmagodpplaaaAllx17
import Derived.Test.YtpinmagodpplaaaAllx18
import Derived.Test.YtpinmagodpplaaaAllx2
import Derived.Test.YtpinmagodpplaaaAllx4
import Derived.Test.YtpinmagodpplaaaAllx8
import Derived.Test.YtpinmagodpplaaaSaysFnExactSpcNow
set_option linter.unusedVariables false
set_option linter.unusedSimpArgs false
namespace Go.Proofs.Ytpinmagodpplaaa.Pure
open Go.RowKit Go.Proofs.Ytpinmagodpplaaa.All Go.Proofs.YtpinmagodpplaaaW.PrintWords Go.Proofs.YtpinmagodpplaaaW.PrintLast Go.Proofs.YtpinmagodpplaaaW.PrintMore

theorem wr {x : Int} (h1 : -9223372036854775808 ≤ x) (h2 : x ≤ 9223372036854775807) : wrap64 x = x := by unfold wrap64; omega
def convT (s : S66) : S27 := ⟨s.f0, ⟨s.f1.f0, s.f1.f1⟩, ⟨s.f2.f0, s.f2.f1⟩, s.f3⟩
theorem toTests_loop (l : List S66) (hl : l.length ≤ 1048576) (d : Nat) : ∀ (k : Nat) (x : List S27) (i : Nat), x.length = l.length → l.length - i = d → i ≤ l.length → (∀ j, j < i → x[j]? = (l.map convT)[j]?) → laws_toSpcTestS.l0 (k + 1 + d) l x i = some (l.map convT) := by
  induction d with
  | zero =>
    intro k x i hx hd hi hM
    simp only [Nat.add_zero, laws_toSpcTestS.l0]
    rw [if_neg (by omega)]
    congr 1
    apply List.ext_getElem?
    intro j
    by_cases hj : j < l.length
    · exact hM j (by omega)
    · rw [List.getElem?_eq_none (by omega), List.getElem?_eq_none (by simp; omega)]
  | succ d ih =>
    intro k x i hx hd hi hM
    rw [show k + 1 + (d + 1) = (k + 1 + d) + 1 by omega]
    simp only [laws_toSpcTestS.l0, laws_toSpcTest.f, laws_toDecDec.f, Option.bind_some]
    rw [if_pos (by omega), if_pos (by omega), if_pos (by omega), wr (x := (i : Int) + 1) (by omega) (by omega)]
    have := ih k (x.set (i : Int).toNat (convT (rd_T66 l i))) (i + 1) (by simp [hx]) (by omega) (by omega) (by
      intro j hj
      rw [Int.toNat_natCast, List.getElem?_set]
      by_cases e : i = j
      · subst e
        rw [if_pos rfl, if_pos (by omega), List.getElem?_map, List.getElem?_eq_getElem (by omega)]
        unfold rd_T66
        rw [List.getD_eq_getElem?_getD, Int.toNat_natCast, List.getElem?_eq_getElem (by omega)]
        rfl
      · rw [if_neg e]
        exact hM j (by omega))
    exact this
theorem to_tests (l : List S66) (hl : l.length ≤ 1048576) (k : Nat) (hk : l.length + 1 ≤ k) : laws_toSpcTestS.f k l = some (l.map convT) := by
  unfold laws_toSpcTestS.f
  rw [if_pos (by omega), if_pos (by omega)]
  have := toTests_loop l hl l.length (k - 1 - l.length) (List.replicate ((l.length : Int) : Int).toNat z27) 0 (by simp) (by omega) (by omega) (by omega)
  rwa [show k - 1 - l.length + 1 + l.length = k by omega] at this
theorem eqTests_loop (l : List S27) (hl : l.length ≤ 4611686018427387904) (d : Nat) : ∀ (k : Nat) (i : Int), 0 ≤ i → (l.length : Int) - i = d → laws_eqSpcTestS.l0 (k + 1 + d) l l i = some true := by
  induction d with
  | zero =>
    intro k i h0 hd
    simp only [Nat.add_zero, laws_eqSpcTestS.l0]
    rw [if_neg (by omega)]
  | succ d ih =>
    intro k i h0 hd
    rw [show k + 1 + (d + 1) = (k + 1 + d) + 1 by omega]
    simp only [laws_eqSpcTestS.l0, laws_eqSpcTest.f, laws_eqDecDec.f, if_true, Option.bind_some]
    rw [if_pos (show i < (l.length : Int) by omega), if_pos h0, if_pos (show i < (l.length : Int) by omega), wr (x := i + 1) (by omega) (by omega)]
    exact ih k (i + 1) (by omega) (by omega)
theorem eqTests_self (l : List S27) (hl : l.length ≤ 4611686018427387904) (k : Nat) (hk : l.length + 1 ≤ k) : laws_eqSpcTestS.f k l l = some true := by
  unfold laws_eqSpcTestS.f
  rw [if_pos rfl]
  have := eqTests_loop l hl l.length (k - 1 - l.length) 0 (by omega) (by omega)
  rwa [show k - 1 - l.length + 1 + l.length = k by omega] at this
def convS (s : S76) : S62 := ⟨s.f0.map convT, s.f1⟩
theorem rdSpec_mem (l : List S76) (i : Int) (h0 : 0 ≤ i) (h : i < l.length) : rd_T76 l i ∈ l := by
  unfold rd_T76
  rw [List.getD_eq_getElem?_getD, List.getElem?_eq_getElem (by omega)]
  exact List.getElem_mem _
def ssz (l : List S76) : Nat → Int → Int → Int
  | 0, _, b => b
  | n + 1, i, b => if b - ((rd_T76 l i).f0.length : Int) < 0 then -1 else ssz l n (i + 1) (b - ((rd_T76 l i).f0.length : Int))
theorem ssz_facts (l : List S76) (n : Nat) : ∀ (i b : Int), 0 ≤ b → b ≤ 1048576 → ssz l n i b = -1 ∨ (0 ≤ ssz l n i b ∧ ssz l n i b ≤ 1048576 ∧ ∀ j, i ≤ j → j < i + n → (rd_T76 l j).f0.length ≤ 1048576) := by
  induction n with
  | zero =>
    intro i b h0 h1
    exact Or.inr ⟨h0, h1, fun j a c => by omega⟩
  | succ n ih =>
    intro i b h0 h1
    simp only [ssz]
    by_cases hn : b - ((rd_T76 l i).f0.length : Int) < 0
    · rw [if_pos hn]; exact Or.inl rfl
    · rw [if_neg hn]
      rcases ih (i + 1) (b - ((rd_T76 l i).f0.length : Int)) (by omega) (by omega) with e | ⟨e1, e2, g⟩
      · exact Or.inl e
      · refine Or.inr ⟨e1, e2, fun j a c => ?_⟩
        by_cases q : j = i
        · subst q; omega
        · exact g j (by omega) (by omega)
theorem szSpecs_loop (l : List S76) (hl : l.length ≤ 1048576) (hG : ∀ z ∈ l, z.f0.length ≤ 9223372036854775807) (d : Nat) : ∀ (k : Nat) (i b : Int), 0 ≤ i → (l.length : Int) - i = d → 0 ≤ b → b ≤ 1048576 →
    laws_szSpcSpecS.l0 (k + 1 + d) l b i = some (ssz l d i b) := by
  induction d with
  | zero =>
    intro k i b h0 hd hb0 hb
    simp only [Nat.add_zero, laws_szSpcSpecS.l0, ssz]
    rw [if_neg (by omega)]
  | succ d ih =>
    intro k i b h0 hd hb0 hb
    have hm := hG _ (rdSpec_mem l i h0 (by omega))
    rw [show k + 1 + (d + 1) = (k + 1 + d) + 1 by omega]
    simp only [laws_szSpcSpecS.l0, laws_szSpcSpec.f, laws_szSpcTestS.f, ssz]
    rw [if_pos (by omega), if_pos h0, wr (x := b - ((rd_T76 l i).f0.length : Int)) (by omega) (by omega), wr (x := i + 1) (by omega) (by omega)]
    by_cases hn : b - ((rd_T76 l i).f0.length : Int) < 0
    · rw [if_pos hn, if_pos hn]
      simp
    · rw [if_neg hn, if_neg hn]
      simp only [Option.bind_some]
      rw [if_neg hn]
      simp only [Option.bind_some]
      rw [if_neg hn]
      exact ih k (i + 1) _ (by omega) (by omega) (by omega) (by omega)
theorem to_specs_loop (l : List S76) (hl : l.length ≤ 1048576) (hf : ∀ j : Int, 0 ≤ j → j < l.length → (rd_T76 l j).f0.length ≤ 1048576) (d : Nat) : ∀ (k : Nat) (x : List S62) (i : Nat), 1048577 ≤ k → x.length = l.length → l.length - i = d → i ≤ l.length → (∀ j, j < i → x[j]? = (l.map convS)[j]?) → laws_toSpcSpecS.l0 (k + 1 + d) l x i = some (l.map convS) := by
  induction d with
  | zero =>
    intro k x i hk hx hd hi hM
    simp only [Nat.add_zero, laws_toSpcSpecS.l0]
    rw [if_neg (by omega)]
    congr 1
    apply List.ext_getElem?
    intro j
    by_cases hj : j < l.length
    · exact hM j (by omega)
    · rw [List.getElem?_eq_none (by omega), List.getElem?_eq_none (by simp; omega)]
  | succ d ih =>
    intro k x i hk hx hd hi hM
    rw [show k + 1 + (d + 1) = (k + 1 + d) + 1 by omega]
    simp only [laws_toSpcSpecS.l0, laws_toSpcSpec.f, Option.bind_some]
    have hq := hf i (by omega) (by omega)
    rw [to_tests _ hq (k + 1 + d) (by omega)]
    simp only [Option.bind_some]
    rw [if_pos (by omega), if_pos (by omega), if_pos (by omega), wr (x := (i : Int) + 1) (by omega) (by omega)]
    have := ih k (x.set (i : Int).toNat (convS (rd_T76 l i))) (i + 1) hk (by simp [hx]) (by omega) (by omega) (by
      intro j hj
      rw [Int.toNat_natCast, List.getElem?_set]
      by_cases e : i = j
      · subst e
        rw [if_pos rfl, if_pos (by omega), List.getElem?_map, List.getElem?_eq_getElem (by omega)]
        unfold rd_T76
        rw [List.getD_eq_getElem?_getD, Int.toNat_natCast, List.getElem?_eq_getElem (by omega)]
        rfl
      · rw [if_neg e]
        exact hM j (by omega))
    exact this
theorem to_specs (l : List S76) (hl : l.length ≤ 1048576) (hf : ∀ j : Int, 0 ≤ j → j < l.length → (rd_T76 l j).f0.length ≤ 1048576) (k : Nat) (hk : l.length + 1048578 ≤ k) : laws_toSpcSpecS.f k l = some (l.map convS) := by
  unfold laws_toSpcSpecS.f
  rw [if_pos (by omega), if_pos (by omega)]
  have := to_specs_loop l hl hf l.length (k - 1 - l.length) (List.replicate ((l.length : Int) : Int).toNat z62) 0 (by omega) (by simp) (by omega) (by omega) (by omega)
  rwa [show k - 1 - l.length + 1 + l.length = k by omega] at this
theorem eq_specs_loop (l : List S62) (hl : l.length ≤ 1048576) (hf : ∀ j : Int, 0 ≤ j → j < l.length → (rd_T62 l j).f0.length ≤ 1048576) (d : Nat) : ∀ (k : Nat) (i : Int), 1048577 ≤ k → 0 ≤ i → (l.length : Int) - i = d → laws_eqSpcSpecS.l0 (k + 1 + d) l l i = some true := by
  induction d with
  | zero =>
    intro k i hk h0 hd
    simp only [Nat.add_zero, laws_eqSpcSpecS.l0]
    rw [if_neg (by omega)]
  | succ d ih =>
    intro k i hk h0 hd
    rw [show k + 1 + (d + 1) = (k + 1 + d) + 1 by omega]
    have hq := hf i h0 (by omega)
    simp only [laws_eqSpcSpecS.l0, laws_eqSpcSpec.f, if_true, Option.bind_some]
    rw [eqTests_self _ (by omega) (k + 1 + d) (by omega)]
    simp only [if_true, Option.bind_some]
    rw [if_pos (show i < (l.length : Int) by omega), if_pos h0, if_pos (show i < (l.length : Int) by omega), wr (x := i + 1) (by omega) (by omega)]
    exact ih k (i + 1) hk (by omega) (by omega)
theorem eq_specs (l : List S62) (hl : l.length ≤ 1048576) (hf : ∀ j : Int, 0 ≤ j → j < l.length → (rd_T62 l j).f0.length ≤ 1048576) (k : Nat) (hk : l.length + 1048578 ≤ k) : laws_eqSpcSpecS.f k l l = some true := by
  unfold laws_eqSpcSpecS.f
  rw [if_pos rfl]
  have := eq_specs_loop l hl hf l.length (k - 1 - l.length) 0 (by omega) (by omega) (by omega)
  rwa [show k - 1 - l.length + 1 + l.length = k by omega] at this
def fs (l : List S62) : Nat → Int → Int
  | 0, _ => -1
  | n + 1, i => if (rd_T62 l i).f1 = 2 then i else fs l n (i + 1)
theorem snow_loop (l : List S62) (hl : l.length ≤ 4611686018427387904) (d : Nat) : ∀ (k : Nat) (i : Int), 0 ≤ i → (l.length : Int) - i = d → spec_SpcNow.l0 (k + 1 + d) l i = some (fs l d i) := by
  induction d with
  | zero =>
    intro k i h0 hd
    simp only [Nat.add_zero, spec_SpcNow.l0, fs]
    rw [if_neg (by omega)]
  | succ d ih =>
    intro k i h0 hd
    rw [show k + 1 + (d + 1) = (k + 1 + d) + 1 by omega]
    simp only [spec_SpcNow.l0, fs]
    rw [if_pos (by omega), if_pos h0, wr (x := i + 1) (by omega) (by omega), ih k (i + 1) (by omega) (by omega)]
    split <;> rfl
theorem inow_loop (l : List S62) (hl : l.length ≤ 4611686018427387904) (d : Nat) : ∀ (k : Nat) (i : Int), 0 ≤ i → (l.length : Int) - i = d → impl_SpcNow.l0 (k + 1 + d) l i = some (fs l d i) := by
  induction d with
  | zero =>
    intro k i h0 hd
    simp only [Nat.add_zero, impl_SpcNow.l0, fs]
    rw [if_neg (by omega)]
  | succ d ih =>
    intro k i h0 hd
    rw [show k + 1 + (d + 1) = (k + 1 + d) + 1 by omega]
    simp only [impl_SpcNow.l0, fs]
    rw [if_pos (by omega), if_pos h0, wr (x := i + 1) (by omega) (by omega), ih k (i + 1) (by omega) (by omega)]
    split <;> rfl
theorem FnExactSpcNow : laws_FnExactSpcNow.Pure := by
  intro l hl
  have b1 : l.length ≤ 9223372036854775807 := Nat.le_trans hl.1 (by decide)
  have b2 : ∀ z ∈ l, z.f0.length ≤ 9223372036854775807 := fun z hz => Nat.le_trans (hl.2 z hz).1.1 (by decide)
  clear hl
  by_cases h : (1048576 - (l.length : Int)) < 0
  · refine ⟨0, ?_⟩
    unfold laws_FnExactSpcNow.f laws_szSpcSpecS.f
    rw [wr (x := 1048576 - (l.length : Int)) (by omega) (by omega), if_pos h]
    simp
  · have h1 : l.length ≤ 1048576 := by omega
    obtain ⟨k, hk⟩ : ∃ k, 2097154 ≤ k := ⟨_, Nat.le_refl _⟩
    refine ⟨k, ?_⟩
    have e := szSpecs_loop l h1 b2 l.length (k - 1 - l.length) 0 (1048576 - (l.length : Int)) (by omega) (by omega) (by omega) (by omega)
    rw [show k - 1 - l.length + 1 + l.length = k by omega] at e
    have f := ssz_facts l l.length 0 (1048576 - (l.length : Int)) (by omega) (by omega)
    generalize ssz l l.length 0 (1048576 - (l.length : Int)) = u at *
    unfold laws_FnExactSpcNow.f laws_szSpcSpecS.f
    rw [wr (x := 1048576 - (l.length : Int)) (by omega) (by omega), if_neg h, e]
    simp only [Option.bind_some]
    rcases f with rfl | ⟨f1, f2, g⟩
    · simp
    · rw [if_neg (show ¬ u < 0 by omega)]
      have t1 := to_specs l h1 (fun j a b => g j a (by omega)) k (by omega)
      have hL : (l.map convS).length = l.length := by simp
      have g2 : ∀ j : Int, 0 ≤ j → j < (l.map convS).length → (rd_T62 (l.map convS) j).f0.length ≤ 1048576 := by
        intro j a b
        have : rd_T62 (l.map convS) j = convS (rd_T76 l j) := by
          unfold rd_T62 rd_T76
          rw [List.getD_eq_getElem?_getD, List.getD_eq_getElem?_getD, List.getElem?_map, List.getElem?_eq_getElem (by omega)]
          rfl
        rw [this]
        unfold convS
        rw [List.length_map]
        exact g j a (by omega)
      have q := eq_specs (l.map convS) (by omega) g2 k (by omega)
      have s := snow_loop (l.map convS) (by omega) l.length (k - 1 - l.length) 0 (by omega) (by omega)
      have i := inow_loop (l.map convS) (by omega) l.length (k - 1 - l.length) 0 (by omega) (by omega)
      rw [show k - 1 - l.length + 1 + l.length = k by omega] at s i
      generalize l.map convS = L at *
      unfold spec_SpcNow.f impl_SpcNow.f
      simp only [Option.bind_some, t1, s, i, if_true, q]

end Go.Proofs.Ytpinmagodpplaaa.Pure
