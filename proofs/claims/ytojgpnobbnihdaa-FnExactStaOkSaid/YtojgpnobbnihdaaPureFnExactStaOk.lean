/- StaOk of the program answers as the reference, at a plan of its own room: the law's pure statement; no conditions. -/
import Derived.Test.YtojgpnobbnihdaaAllx0
import Derived.Test.YtojgpnobbnihdaaAllx1
import Derived.Test.YtojgpnobbnihdaaAllx18
import Derived.Test.YtojgpnobbnihdaaAllx2
import Derived.Test.YtojgpnobbnihdaaAllx3
import Derived.Test.YtojgpnobbnihdaaAllx9
import Derived.Test.YtojgpnobbnihdaaSaysFnExactStaOk
set_option linter.unusedVariables false
set_option linter.unusedSimpArgs false
namespace Go.Proofs.Ytojgpnobbnihdaa.Pure
open Go.RowKit Go.Proofs.Ytojgpnobbnihdaa.All Go.Proofs.YtojgpnobbnihdaaW.PrintWords Go.Proofs.YtojgpnobbnihdaaW.PrintLast Go.Proofs.YtojgpnobbnihdaaW.PrintMore

theorem wr {x : Int} (h1 : -9223372036854775808 ≤ x) (h2 : x ≤ 9223372036854775807) : wrap64 x = x := by unfold wrap64; omega
theorem tmod0 (a n : Int) : (Int.tmod a n = 0) = (a % n = 0) := by
  rw [← Int.dvd_iff_tmod_eq_zero, Int.dvd_iff_emod_eq_zero]
def leap (y : Int) : Bool := decide (y % 4 = 0 ∧ (y % 100 ≠ 0 ∨ y % 400 = 0))
theorem tb (a n : Int) : (Int.tmod a n == 0) = decide (a % n = 0) := by
  rw [← decide_eq_decide.mpr (iff_of_eq (tmod0 a n))]
  rfl
theorem spec_leap (y : Int) : spec_DayLeap.f y = some (leap y) := by
  unfold spec_DayLeap.f leap
  simp only [tmod0, tb]
  by_cases h4 : y % 4 = 0 <;> by_cases h1 : y % 100 = 0 <;> by_cases h2 : y % 400 = 0 <;> simp [h4, h1, h2]
  all_goals omega
theorem impl_leap (y : Int) : impl_DayLeap.f y = some (leap y) := by
  unfold impl_DayLeap.f leap
  simp only [tmod0, tb]
  by_cases h4 : y % 4 = 0 <;> by_cases h1 : y % 100 = 0 <;> by_cases h2 : y % 400 = 0 <;> simp [h4, h1, h2]
def dl (y m : Int) : Int := if 1 ≤ m ∧ m ≤ 12 then (if m = 2 then (if leap y = true then 29 else 28) else impl_DayLast.tab m) else 0
theorem impl_last (y m : Int) : impl_DayLast.f y m = some (dl y m) := by
  unfold impl_DayLast.f dl
  by_cases h1 : m ≥ 1
  · by_cases h2 : m ≤ 12
    · rw [if_pos h1, if_pos h2, if_pos (show 1 ≤ m ∧ m ≤ 12 from ⟨h1, h2⟩)]
      by_cases h3 : m = 2
      · simp only [if_pos h3, impl_leap]
        cases leap y <;> rfl
      · simp only [if_neg h3]
    · rw [if_pos h1, if_neg h2, if_neg (by omega)]
  · rw [if_neg h1, if_neg (by omega)]
theorem spec_last_two (y m : Int) (k : Nat) (hk : 2 ≤ k) : spec_DayLast.f k y m = some (dl y m) := by
  obtain ⟨k, rfl⟩ : ∃ j, k = j + 2 := ⟨k - 2, by omega⟩
  by_cases h : 1 ≤ m ∧ m ≤ 12
  · rcases (by omega : m = 1 ∨ m = 2 ∨ m = 3 ∨ m = 4 ∨ m = 5 ∨ m = 6 ∨ m = 7 ∨ m = 8 ∨ m = 9 ∨ m = 10 ∨ m = 11 ∨ m = 12) with rfl | rfl | rfl | rfl | rfl | rfl | rfl | rfl | rfl | rfl | rfl | rfl
    all_goals simp [spec_DayLast.f, spec_DayLast.j0, spec_DayLast.j1, spec_leap, dl, impl_DayLast.tab]
    cases leap y <;> simp
  · have hn : ∀ c : Int, 1 ≤ c → c ≤ 12 → m ≠ c := fun c h1 h2 e => h ⟨by omega, by omega⟩
    have e : ∀ c : Int, 1 ≤ c → c ≤ 12 → (m == c) = false := fun c h1 h2 => by simpa using hn c h1 h2
    have e1 := e 12 (by omega) (by omega)
    have e2 := e 11 (by omega) (by omega)
    simp only [spec_DayLast.f]
    rw [if_neg (hn 1 (by omega) (by omega)), if_neg (hn 3 (by omega) (by omega)), if_neg (hn 5 (by omega) (by omega)), if_neg (hn 7 (by omega) (by omega)), if_neg (hn 8 (by omega) (by omega)), if_neg (hn 10 (by omega) (by omega)), e1]
    simp only [spec_DayLast.j0]
    rw [if_neg (by simp), if_neg (hn 4 (by omega) (by omega)), if_neg (hn 6 (by omega) (by omega)), if_neg (hn 9 (by omega) (by omega)), e2]
    simp only [spec_DayLast.j1]
    rw [if_neg (by simp), if_neg (hn 2 (by omega) (by omega))]
    unfold dl
    rw [if_neg h]
theorem in_impl (a b c : Int) : impl_in.f a b c = some (decide (b ≤ a ∧ a ≤ c)) := by
  unfold impl_in.f
  by_cases h : a ≥ b
  · rw [if_pos h]; simp [show b ≤ a from h]
  · rw [if_neg h]; simp [show ¬ b ≤ a from h]
theorem in_spec (a b c : Int) : spec_l1In.f a b c = some (decide (b ≤ a ∧ a ≤ c)) := by
  unfold spec_l1In.f
  by_cases h : a ≥ b
  · rw [if_pos h]; simp [show b ≤ a from h]
  · rw [if_neg h]; simp [show ¬ b ≤ a from h]
def dok (y m d : Int) : Bool := decide (1900 ≤ y ∧ y ≤ 2199 ∧ 1 ≤ m ∧ m ≤ 12 ∧ 1 ≤ d ∧ d ≤ dl y m)
theorem impl_ok (y m d : Int) : impl_DayOk.f y m d = some (dok y m d) := by
  unfold impl_DayOk.f dok
  rw [in_impl, impl_last]
  simp only [Option.bind_some, in_impl, decide_eq_true_eq]
  have hd : ¬ (1 ≤ m ∧ m ≤ 12) → dl y m = 0 := fun h => by unfold dl; rw [if_neg h]
  by_cases h1 : 1900 ≤ y ∧ y ≤ 2199
  · rw [if_pos h1]; congr 1; rw [decide_eq_decide]
    by_cases h : 1 ≤ m ∧ m ≤ 12
    · omega
    · have := hd h
      omega
  · rw [if_neg h1]; congr 1; symm; rw [decide_eq_false_iff_not]; omega
theorem spec_last2 (k : Nat) (y m : Int) : spec_DayLast.f (k + 2) y m = some (dl y m) := by
  exact spec_last_two y m _ (by omega)
theorem spec_ok2 (k : Nat) (y m d : Int) : spec_DayOk.f (k + 2) y m d = some (dok y m d) := by
  unfold spec_DayOk.f dok
  simp only [in_spec, Option.bind_some, decide_eq_true_eq, spec_last2]
  by_cases h1 : 1900 ≤ y ∧ y ≤ 2199
  · rw [if_pos h1]
    by_cases h2 : 1 ≤ m ∧ m ≤ 12
    · rw [if_pos h2]; congr 1; rw [decide_eq_decide]; omega
    · rw [if_neg h2]; congr 1; symm; rw [decide_eq_false_iff_not]; omega
  · rw [if_neg h1]; congr 1; symm; rw [decide_eq_false_iff_not]; omega
def riseB (l : List Int) (i : Int) : Nat → Bool
  | 0 => true
  | d + 1 => decide (1 ≤ rd l i ∧ rd l i ≤ 600 ∧ (0 < i → rd l (i - 1) < rd l i)) && riseB l (i + 1) d
def baseOk (y m d : Int) (n : Nat) (w : Int) : Bool := decide (dok y m d = true ∧ y ≤ 2139 ∧ 1 ≤ n ∧ n ≤ 8 ∧ 0 ≤ w ∧ w ≤ 14)
def staOk (y m d : Int) (l : List Int) (w : Int) : Bool := riseB l 0 l.length && baseOk y m d l.length w
theorem spec_rise_loop (y m dd w : Int) (l : List Int) (hl : l.length ≤ 8) (d : Nat) : ∀ (k : Nat) (i : Int), 0 ≤ i → (l.length : Int) - i = d → spec_StaOk.l0 (k + 1 + 2 * d) i y m dd l w = some (riseB l i d) := by
  induction d with
  | zero =>
    intro k i h0 hd
    simp only [Nat.mul_zero, Nat.add_zero, spec_StaOk.l0, riseB]
    rw [if_neg (by omega)]
  | succ d ih =>
    intro k i h0 hd
    have fin : ∀ b : Bool, (b = true ↔ ¬ (1 ≤ rd l i ∧ rd l i ≤ 600 ∧ (0 < i → rd l (i - 1) < rd l i))) → spec_StaOk.j2 (k + 1 + 2 * d + 1) i b y m dd l w = some (riseB l i (d + 1)) := by
      intro b hb
      simp only [spec_StaOk.j2, riseB]
      cases b with
      | true => rw [if_pos rfl, decide_eq_false (hb.mp rfl)]; rfl
      | false =>
        rw [if_neg (by simp), wr (x := i + 1) (by omega) (by omega), ih k (i + 1) (by omega) (by omega)]
        by_cases q : 1 ≤ rd l i ∧ rd l i ≤ 600 ∧ (0 < i → rd l (i - 1) < rd l i)
        · rw [decide_eq_true q]; rfl
        · exact absurd (hb.mpr q) (by simp)
    rw [show k + 1 + 2 * (d + 1) = (k + 1 + 2 * d + 1) + 1 by omega]
    simp only [spec_StaOk.l0, in_spec, Option.bind_some, decide_eq_true_eq]
    rw [if_pos (by omega), if_pos h0]
    by_cases q1 : 1 ≤ rd l i ∧ rd l i ≤ 600
    · rw [if_pos q1]
      by_cases q2 : i > 0
      · rw [if_pos q2, wr (x := i - 1) (by omega) (by omega), if_pos (by omega), if_pos (by omega)]
        exact fin _ (by rw [decide_eq_true_eq]; omega)
      · rw [if_neg q2]
        exact fin _ (by simp; omega)
    · rw [if_neg q1]
      exact fin _ (by simp; omega)
theorem spec_sta (k : Nat) (y m d : Int) (l : List Int) (w : Int) : spec_StaOk.f (k + 20) y m d l w = some (staOk y m d l w) := by
  have no : ∀ j, spec_StaOk.j0 (j + 1) true y m d l w = some false := fun j => by simp only [spec_StaOk.j0]; rw [if_pos trivial]
  have bad : ¬ (dok y m d = true ∧ y ≤ 2139 ∧ 1 ≤ l.length ∧ l.length ≤ 8 ∧ 0 ≤ w ∧ w ≤ 14) → staOk y m d l w = false := by
    intro h
    unfold staOk baseOk
    rw [decide_eq_false h, Bool.and_false]
  unfold spec_StaOk.f
  rw [show k + 20 = (k + 18) + 2 by omega, spec_ok2]
  simp only [Option.bind_some, in_spec]
  by_cases h1 : dok y m d = true
  · rw [if_pos h1]
    by_cases h2 : y > 2139
    · rw [if_pos h2, no, bad (by omega)]
    · rw [if_neg h2]
      by_cases h3 : 1 ≤ (l.length : Int) ∧ (l.length : Int) ≤ 8
      · rw [decide_eq_true h3, if_pos rfl]
        by_cases h4 : 0 ≤ w ∧ w ≤ 14
        · rw [decide_eq_true h4]
          simp only [spec_StaOk.j0, Bool.not_true]
          rw [if_neg (by simp), show k + 18 + 1 = (k + 18 - 2 * l.length) + 1 + 2 * l.length by omega, spec_rise_loop y m d w l (by omega) l.length _ 0 (by omega) (by omega)]
          unfold staOk baseOk
          rw [decide_eq_true (show dok y m d = true ∧ y ≤ 2139 ∧ 1 ≤ l.length ∧ l.length ≤ 8 ∧ 0 ≤ w ∧ w ≤ 14 from ⟨h1, by omega, by omega, by omega, h4.1, h4.2⟩), Bool.and_true]
        · rw [decide_eq_false h4, Bool.not_false, no, bad (by omega)]
      · rw [decide_eq_false h3, if_neg (by simp), no, bad (by omega)]
  · rw [if_neg h1, no, bad (by simp [h1])]
theorem impl_rise_loop (y m dd w : Int) (l : List Int) (hl : l.length ≤ 1048576) (d : Nat) : ∀ (k : Nat) (i : Int), 0 ≤ i → (l.length : Int) - i = d → impl_StaOk.l0 (k + 1 + 2 * d) l (l.length : Int) i y m dd l w = some (riseB l i d && baseOk y m dd l.length w) := by
  induction d with
  | zero =>
    intro k i h0 hd
    simp only [Nat.mul_zero, Nat.add_zero, impl_StaOk.l0, riseB, impl_ok, in_impl, Option.bind_some, Bool.true_and]
    rw [if_neg (by omega)]
    unfold baseOk
    by_cases h1 : dok y m dd = true
    · rw [if_pos h1]
      by_cases h2 : y ≤ 2139
      · rw [if_pos h2]
        by_cases h3 : 1 ≤ (l.length : Int) ∧ (l.length : Int) ≤ 8
        · rw [decide_eq_true h3, if_pos rfl]
          congr 1; rw [decide_eq_decide]; exact ⟨fun g => ⟨h1, h2, by omega, by omega, g.1, g.2⟩, fun g => ⟨g.2.2.2.2.1, g.2.2.2.2.2⟩⟩
        · rw [decide_eq_false h3, if_neg (by simp)]
          congr 1; symm; rw [decide_eq_false_iff_not]; omega
      · rw [if_neg h2]
        congr 1; symm; rw [decide_eq_false_iff_not]; omega
    · rw [if_neg h1]
      congr 1; symm; rw [decide_eq_false_iff_not]; simp [h1]
  | succ d ih =>
    intro k i h0 hd
    have fin : ∀ b : Bool, (b = true ↔ ¬ (1 ≤ rd l i ∧ rd l i ≤ 600 ∧ (0 < i → rd l (i - 1) < rd l i))) → impl_StaOk.j1 (k + 1 + 2 * d + 1) l (l.length : Int) i b y m dd l w = some (riseB l i (d + 1) && baseOk y m dd l.length w) := by
      intro b hb
      simp only [impl_StaOk.j1, riseB]
      cases b with
      | true => rw [if_pos rfl, decide_eq_false (hb.mp rfl)]; rfl
      | false =>
        rw [if_neg (by simp), wr (x := i + 1) (by omega) (by omega), ih k (i + 1) (by omega) (by omega)]
        by_cases q : 1 ≤ rd l i ∧ rd l i ≤ 600 ∧ (0 < i → rd l (i - 1) < rd l i)
        · rw [decide_eq_true q]; rfl
        · exact absurd (hb.mpr q) (by simp)
    rw [show k + 1 + 2 * (d + 1) = (k + 1 + 2 * d + 1) + 1 by omega]
    simp only [impl_StaOk.l0, in_impl, Option.bind_some, decide_eq_true_eq]
    rw [if_pos (by omega), if_pos h0, if_pos (by omega)]
    by_cases q1 : 1 ≤ rd l i ∧ rd l i ≤ 600
    · rw [if_pos q1]
      by_cases q2 : i > 0
      · rw [if_pos q2, wr (x := i - 1) (by omega) (by omega), if_pos (by omega), if_pos (by omega)]
        exact fin _ (by rw [decide_eq_true_eq]; omega)
      · rw [if_neg q2]
        exact fin _ (by simp; omega)
    · rw [if_neg q1]
      exact fin _ (by simp; omega)
theorem impl_sta (k : Nat) (y m d : Int) (l : List Int) (w : Int) (hl : l.length ≤ 1048576) : impl_StaOk.f (k + 1 + 2 * l.length) y m d l w = some (staOk y m d l w) := by
  unfold impl_StaOk.f staOk
  exact impl_rise_loop y m d w l hl l.length k 0 (by omega) (by omega)
theorem eqInts_loop (l : List Int) (hl : l.length ≤ 4611686018427387904) (d : Nat) : ∀ (k : Nat) (i : Int), 0 ≤ i → (l.length : Int) - i = d → laws_eqIntS.l0 (k + 1 + d) l l i = some true := by
  induction d with
  | zero =>
    intro k i h0 hd
    simp only [Nat.add_zero, laws_eqIntS.l0]
    rw [if_neg (by omega)]
  | succ d ih =>
    intro k i h0 hd
    rw [show k + 1 + (d + 1) = (k + 1 + d) + 1 by omega]
    simp only [laws_eqIntS.l0]
    rw [if_pos (show i < (l.length : Int) by omega), if_pos h0, if_pos (show i < (l.length : Int) by omega), if_pos trivial, wr (x := i + 1) (by omega) (by omega)]
    exact ih k (i + 1) (by omega) (by omega)
theorem eqInts_self (l : List Int) (hl : l.length ≤ 4611686018427387904) (k : Nat) (hk : l.length + 1 ≤ k) : laws_eqIntS.f k l l = some true := by
  unfold laws_eqIntS.f
  rw [if_pos rfl]
  have := eqInts_loop l hl l.length (k - 1 - l.length) 0 (by omega) (by omega)
  rwa [show k - 1 - l.length + 1 + l.length = k by omega] at this
theorem toInts_loop (l : List Int) (hl : l.length ≤ 1048576) (d : Nat) : ∀ (k : Nat) (x : List Int) (i : Nat), x.length = l.length → l.length - i = d → i ≤ l.length → (∀ j, j < i → x[j]? = l[j]?) → laws_toIntS.l0 (k + 1 + d) l x i = some l := by
  induction d with
  | zero =>
    intro k x i hx hd hi hM
    simp only [Nat.add_zero, laws_toIntS.l0]
    rw [if_neg (by omega)]
    congr 1
    apply List.ext_getElem? 
    intro j
    by_cases hj : j < l.length
    · exact hM j (by omega)
    · rw [List.getElem?_eq_none (by omega), List.getElem?_eq_none (by omega)]
  | succ d ih =>
    intro k x i hx hd hi hM
    rw [show k + 1 + (d + 1) = (k + 1 + d) + 1 by omega]
    simp only [laws_toIntS.l0]
    rw [if_pos (by omega), if_pos (by omega), if_pos (by omega), wr (x := (i : Int) + 1) (by omega) (by omega)]
    have := ih k (x.set (i : Int).toNat (rd l i)) (i + 1) (by simp [hx]) (by omega) (by omega) (by
      intro j hj
      rw [Int.toNat_natCast, List.getElem?_set]
      by_cases e : i = j
      · subst e
        rw [if_pos rfl, if_pos (by omega)]
        unfold rd
        rw [List.getD_eq_getElem?_getD, Int.toNat_natCast, List.getElem?_eq_getElem (by omega)]
        rfl
      · rw [if_neg e]
        exact hM j (by omega))
    exact this
theorem to_ints (l : List Int) (hl : l.length ≤ 1048576) (k : Nat) (hk : l.length + 1 ≤ k) : laws_toIntS.f k l = some l := by
  unfold laws_toIntS.f
  rw [if_pos (by omega), if_pos (by omega)]
  have := toInts_loop l hl l.length (k - 1 - l.length) (List.replicate ((l.length : Int) : Int).toNat 0) 0 (by simp) (by omega) (by omega) (by omega)
  rwa [show k - 1 - l.length + 1 + l.length = k by omega] at this
theorem sz_plan (y m d : Int) (l : List Int) (w : Int) (big : l.length ≤ 9223372036854775807) : l.length ≤ 1048576 ∧ laws_szStaPlan.f y m d l w 1048576 = some ((1048576 : Int) - (l.length : Int)) ∨ laws_szStaPlan.f y m d l w 1048576 = some (-1) := by
  unfold laws_szStaPlan.f laws_szIntS.f
  rw [wr (x := 1048576 - (l.length : Int)) (by omega) (by omega)]
  by_cases h : (1048576 - (l.length : Int)) < 0
  · rw [if_pos h]
    exact Or.inr rfl
  · rw [if_neg h]
    refine Or.inl ⟨by omega, ?_⟩
    simp only [Option.bind_some]
    rw [if_neg h]
theorem to_plan (y m d : Int) (l : List Int) (w : Int) (hl : l.length ≤ 1048576) (k : Nat) (hk : l.length + 1 ≤ k) : laws_toStaPlan.f k y m d l w = some (y, m, d, l, w) := by
  unfold laws_toStaPlan.f laws_toDayDay.f
  simp only [Option.bind_some, to_ints l hl k hk]
theorem eq_plan (y m d : Int) (l : List Int) (w : Int) (hl : l.length ≤ 1048576) (k : Nat) (hk : l.length + 1 ≤ k) : laws_eqStaPlan.f k y m d l w y m d l w = some true := by
  unfold laws_eqStaPlan.f laws_eqDayDay.f
  simp only [Option.bind_some, if_true, eqInts_self l (by omega) k hk]
theorem FnExactStaOk : laws_FnExactStaOk.Pure := by
  intro y m d l w _ _ _ hl _
  have big : l.length ≤ 9223372036854775807 := Nat.le_trans hl.1 (by decide)
  rcases sz_plan y m d l w big with ⟨h1, e⟩ | e
  · obtain ⟨K, hK⟩ : ∃ K, K = 2 * l.length + 1000 := ⟨_, rfl⟩
    refine ⟨K, ?_⟩
    have e1 : spec_StaOk.f K y m d l w = some (staOk y m d l w) := by
      have := spec_sta (K - 20) y m d l w
      rwa [show K - 20 + 20 = K by omega] at this
    have e2 : impl_StaOk.f K y m d l w = some (staOk y m d l w) := by
      have := impl_sta (K - 1 - 2 * l.length) y m d l w h1
      rwa [show K - 1 - 2 * l.length + 1 + 2 * l.length = K by omega] at this
    unfold laws_FnExactStaOk.f
    rw [e]
    simp only [Option.bind_some, to_plan y m d l w h1 K (by omega), eq_plan y m d l w h1 K (by omega), e1, e2]
    rw [if_neg (by omega)]
    simp
  · refine ⟨0, ?_⟩
    unfold laws_FnExactStaOk.f
    rw [e]
    simp only [Option.bind_some]
    rw [if_pos (by omega)]

end Go.Proofs.Ytojgpnobbnihdaa.Pure
