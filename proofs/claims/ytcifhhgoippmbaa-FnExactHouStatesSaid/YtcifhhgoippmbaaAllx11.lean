-- Written by the session's own program wip/allprint.py, which drives the kit's print; Lean checks it.
import Derived.Test.YtcifhhgoippmbaaAllx0
import Derived.Test.YtcifhhgoippmbaaAllx10
namespace Go.Proofs.Ytcifhhgoippmbaa.All
open Go.RowKit Go.Proofs.YtcifhhgoippmbaaW.PrintWords Go.Proofs.YtcifhhgoippmbaaW.PrintLast Go.Proofs.YtcifhhgoippmbaaW.PrintMore
attribute [local go_sem] max2_int min2_int max_two min_two max_three min_three max_four min_four   -- for this text's walks alone
set_option linter.unusedVariables false
set_option linter.unusedSimpArgs false

/-! ### laws_markHouHouse: function 10 (by hand, for a house as a whole) -/
/-! What marks keep of a world: the shape of its rows -/
def mkT (t : Nat) : Prop := t = 87 ∨ t = 64 ∨ t = 85 ∨ t = 93 ∨ t = 4 ∨ t = 90 ∨ t = 45
def Tb (w : World) (g t : Nat) : Prop := ∃ cells, w.heap[g]? = some (.cells cells t (0, 0))
def NS (v : Value) : Prop := ∀ A n c, v ≠ .slice A n c
def Sc (w : World) (g j : Nat) : Prop := ∃ v, w.cell? ⟨g, j, none⟩ = some v ∧ NS v
structure MK (B : Nat) (w w' : World) : Prop where
 size : w.heap.size ≤ w'.heap.size
 keep : ∀ k, k < w.heap.size → (k < B ∨ ∀ t, Tb w k t → ¬ mkT t) → w'.heap[k]? = w.heap[k]?
 tb : ∀ k t, Tb w k t → Tb w' k t
 sc : ∀ g j, Sc w g j → Sc w' g j
 sl : ∀ g j A n c, w.cell? ⟨g, j, none⟩ = some (.slice A n c) → w'.cell? ⟨g, j, none⟩ = some (.slice A n c)
theorem MK.refl (B : Nat) (w : World) : MK B w w := ⟨Nat.le_refl _, fun _ _ _ => rfl, fun _ _ h => h, fun _ _ h => h, fun _ _ _ _ _ h => h⟩
theorem MK.trans {B : Nat} {w w1 w2 : World} (h : MK B w w1) (k : MK B w1 w2) : MK B w w2 :=
 ⟨Nat.le_trans h.size k.size, fun i hi hn => by
  have e := h.keep i hi hn
  refine (k.keep i (Nat.lt_of_lt_of_le hi h.size) (hn.imp id (fun hn t ht => hn t ?_))).trans e
  obtain ⟨c, hc⟩ := ht
  exact ⟨c, e.symm.trans hc⟩, fun i t ht => k.tb i t (h.tb i t ht), fun g j hj => k.sc g j (h.sc g j hj), fun g j A n c hc => k.sl g j A n c (h.sl g j A n c hc)⟩
theorem Tb.lt {w : World} {g t : Nat} (h : Tb w g t) : g < w.heap.size := by
 obtain ⟨c, hc⟩ := h
 exact blk_lt hc
theorem cell_same {w w' : World} {a : Addr} (h : w'.heap[a.block]? = w.heap[a.block]?) : w'.cell? a = w.cell? a := by simp [World.cell?, h]
theorem MK.below (B : Nat) {w w' : World} (h : Below w.heap.size w w') : MK B w w' := by
 refine ⟨h.size, fun k hk _ => h.block k hk, fun k t ht => ?_, fun g j hj => ?_, fun g j A n c hc => ?_⟩
 ·have hl := ht.lt
  obtain ⟨c, hc⟩ := ht
  exact ⟨c, (h.block k hl).trans hc⟩
 ·obtain ⟨v, hv, hn⟩ := hj
  exact ⟨v, (cell_same (h.block g (World.block_lt_of_cell? w _ hv))).trans hv, hn⟩
 ·exact (cell_same (h.block g (World.block_lt_of_cell? w _ hc))).trans hc
theorem MK.store {B : Nat} {w : World} {g t j : Nat} {v : Value} (ht : Tb w g t) (hm : mkT t) (hB : B ≤ g) (hs : Sc w g j) (hv : NS v) : MK B w (w.setCell ⟨g, j, none⟩ v) := by
 obtain ⟨cs, hc⟩ := ht
 have hg := blk_set hc j v
 have far : ∀ k, k ≠ g → (w.setCell ⟨g, j, none⟩ v).heap[k]? = w.heap[k]? := fun k hk => Below.heap_setCell w ⟨g, j, none⟩ v k hk
 obtain ⟨old, ho, hon⟩ := hs
 have ho2 : cs[j]? = some old := by rw [← blk_cell hc j]; exact ho
 have hj : j < cs.size := by
  rcases Nat.lt_or_ge j cs.size with h | h
  ·exact h
  ·rw [Array.getElem?_eq_none h] at ho2
   cases ho2
 have self : ∀ i, (w.setCell ⟨g, j, none⟩ v).cell? ⟨g, i, none⟩ = if j = i then some v else w.cell? ⟨g, i, none⟩ := by
  intro i
  rw [blk_cell hg i, blk_cell hc i, Array.getElem?_setIfInBounds]
  by_cases e : j = i
  ·subst e
   rw [if_pos rfl, if_pos rfl, if_pos hj]
  ·rw [if_neg e, if_neg e]
 refine ⟨by simp [World.setCell], fun k _ hk => ?_, fun k t' ht' => ?_, fun g' i hi => ?_, fun g' i A n c hi => ?_⟩
 ·refine far k (fun e => ?_)
  subst e
  rcases hk with hk | hk
  ·omega
  ·exact hk t ⟨cs, hc⟩ hm
 ·by_cases e : k = g
  ·subst e
   obtain ⟨c', hc'⟩ := ht'
   rw [hc] at hc'
   injection hc' with hc'
   injection hc' with _ e2 _
   subst e2
   exact ⟨_, hg⟩
  ·obtain ⟨c', hc'⟩ := ht'
   exact ⟨c', (far k e).trans hc'⟩
 ·obtain ⟨u, hu, hun⟩ := hi
  by_cases e : g' = g
  ·subst e
   rcases Nat.decEq j i with e2 | e2
   ·exact ⟨u, by rw [self, if_neg e2]; exact hu, hun⟩
   ·exact ⟨v, by rw [self, if_pos e2], hv⟩
  ·exact ⟨u, (cell_same (far g' e)).trans hu, hun⟩
 ·by_cases e : g' = g
  ·subst e
   rw [self]
   rcases Nat.decEq j i with e2 | e2
   ·rw [if_neg e2]
    exact hi
   ·subst e2
    rw [ho] at hi
    injection hi with hi
    exact absurd hi (hon A n c)
  ·exact (cell_same (far g' e)).trans hi
theorem Tb.frozen {w : World} {g t : Nat} (h : Tb w g t) (j : Nat) : w.frozen? ⟨g, j, none⟩ = false := by
 obtain ⟨c, hc⟩ := h
 exact blk_frozen hc j
theorem NS.int (k : IntKind) (x : Int) : NS (.int k x) := fun _ _ _ h => by cases h
theorem NS.bool (x : Bool) : NS (.bool x) := fun _ _ _ h => by cases h
/-- A row's shape. -/
def Row {α : Type} (w : World) (B t sz : Nat) (E : World → Nat → Nat → α → Prop) (z : α) (A : Option Addr) (xs : List α) : Prop :=
 xs = [] ∨ ∃ g, A = some ⟨g, 0, none⟩ ∧ B ≤ g ∧ Tb w g t ∧ ∀ i : Nat, i < xs.length → E w g (i * sz) (xs.getD i z)
theorem Row.mk_ {α : Type} {w w' : World} {B B' t sz : Nat} {E : World → Nat → Nat → α → Prop} {z : α} {A : Option Addr} {xs : List α} (h : Row w B t sz E z A xs) (hM : MK B' w w') (hE : ∀ g o x, E w g o x → E w' g o x) : Row w' B t sz E z A xs := by
 rcases h with h | ⟨g, e, hB, ht, hi⟩
 ·exact .inl h
 ·exact .inr ⟨g, e, hB, hM.tb g t ht, fun i hl => hE _ _ _ (hi i hl)⟩
theorem Row.at_ {α : Type} {w : World} {B t sz : Nat} {E : World → Nat → Nat → α → Prop} {z : α} {A : Option Addr} {xs : List α} (h : Row w B t sz E z A xs) (i : Int) (h0 : 0 ≤ i) (h1 : i < (xs.length : Int)) :
  ∃ g, A = some ⟨g, 0, none⟩ ∧ B ≤ g ∧ Tb w g t ∧ E w g (i.toNat * sz) (xs.getD i.toNat z) := by
 rcases h with h | ⟨g, e, hB, ht, hi⟩
 ·rw [h] at h1
  simp at h1
  omega
 ·exact ⟨g, e, hB, ht, hi i.toNat (by omega)⟩
theorem Row.of_R {α : Type} {d : Kd α} {t : Nat} {w : World} {B : Nat} {ok : Nat → Prop} {v : Value} {xs : List α} (h : d.R t w B ok v xs) (E : World → Nat → Nat → α → Prop) (z : α)
  (hE : ∀ ok x c g o, d.M w B ok x c → (∀ j u, c[j]? = some u → w.cell? ⟨g, o + j, none⟩ = some u) → E w g o x) : ∃ A c, v = .slice A xs.length c ∧ Row w B t d.sz E z A xs := by
 obtain ⟨A, c, rfl⟩ := Kd.R_slice h
 refine ⟨A, c, rfl, ?_⟩
 rcases Nat.eq_zero_or_pos xs.length with hz | hp
 ·exact .inl (List.eq_nil_of_length_eq_zero hz)
 ·obtain ⟨g, cap, e, hb, hl, cells, hc⟩ := Kd.R_form h hp
  injection e with e1 e2 e3
  subst e1
  subst e3
  refine .inr ⟨g, rfl, hb, ⟨cells, hc⟩, fun i hi => ?_⟩
  obtain ⟨cs, hcl, hM, hcc, _⟩ := Kd.R_elem h z (i : Int) (by omega) (by omega)
  exact hE _ _ _ _ _ hM (fun j u hu => by have := hcc j u hu; simpa using this)
def E85 (w : World) (g o : Nat) (_ : S85) : Prop := Sc w g o ∧ Sc w g (o + 1)
def E87 (w : World) (g o : Nat) (_ : S87) : Prop := Sc w g o ∧ Sc w g (o + 1) ∧ Sc w g (o + 2) ∧ Sc w g (o + 3) ∧ Sc w g (o + 4) ∧ Sc w g (o + 5)
def E93 (w : World) (g o : Nat) (_ : S93) : Prop := Sc w g o ∧ Sc w g (o + 1) ∧ Sc w g (o + 2)
def E4 (w : World) (g o : Nat) (_ : Bool) : Prop := Sc w g o
def E64 (B : Nat) (w : World) (g o : Nat) (x : S64) : Prop := (∃ A c, w.cell? ⟨g, o, none⟩ = some (.slice A x.f0.length c) ∧ Row w B 87 6 E87 z87 A x.f0) ∧ Sc w g (o + 1)
def E90 (B : Nat) (w : World) (g o : Nat) (x : S90) : Prop := Sc w g o ∧ Sc w g (o + 1) ∧ Sc w g (o + 2) ∧ Sc w g (o + 3) ∧ Sc w g (o + 4) ∧ Sc w g (o + 5) ∧ Sc w g (o + 6) ∧ Sc w g (o + 7) ∧ Sc w g (o + 8) ∧ Sc w g (o + 9) ∧
 ∃ A c, w.cell? ⟨g, o + 10, none⟩ = some (.slice A x.f4.length c) ∧ Row w B 85 2 E85 z85 A x.f4
def E45 (B : Nat) (w : World) (g o : Nat) (x : S45) : Prop := Sc w g o ∧ Sc w g (o + 1) ∧ (∃ A c, w.cell? ⟨g, o + 2, none⟩ = some (.slice A x.f2.length c) ∧ Row w B 90 11 (E90 B) z90 A x.f2) ∧ Sc w g (o + 3) ∧
 (∃ A c, w.cell? ⟨g, o + 4, none⟩ = some (.slice A x.f4.length c) ∧ Row w B 93 3 E93 z93 A x.f4) ∧ ∃ A c, w.cell? ⟨g, o + 5, none⟩ = some (.slice A x.f5.length c) ∧ Row w B 4 1 E4 false A x.f5
section
variable {B B' : Nat} {w w' : World} (hM : MK B' w w')
include hM
theorem E85.mk_ {g o : Nat} {x : S85} (h : E85 w g o x) : E85 w' g o x := ⟨hM.sc _ _ h.1, hM.sc _ _ h.2⟩
theorem E87.mk_ {g o : Nat} {x : S87} (h : E87 w g o x) : E87 w' g o x := ⟨hM.sc _ _ h.1, hM.sc _ _ h.2.1, hM.sc _ _ h.2.2.1, hM.sc _ _ h.2.2.2.1, hM.sc _ _ h.2.2.2.2.1, hM.sc _ _ h.2.2.2.2.2⟩
theorem E93.mk_ {g o : Nat} {x : S93} (h : E93 w g o x) : E93 w' g o x := ⟨hM.sc _ _ h.1, hM.sc _ _ h.2.1, hM.sc _ _ h.2.2⟩
theorem E4.mk_ {g o : Nat} {x : Bool} (h : E4 w g o x) : E4 w' g o x := hM.sc _ _ h
theorem E64.mk_ {g o : Nat} {x : S64} (h : E64 B w g o x) : E64 B w' g o x := by
 obtain ⟨⟨A, c, h1, h2⟩, h3⟩ := h
 exact ⟨⟨A, c, hM.sl _ _ _ _ _ h1, h2.mk_ hM (fun _ _ _ hx => E87.mk_ hM hx)⟩, hM.sc _ _ h3⟩
theorem E90.mk_ {g o : Nat} {x : S90} (h : E90 B w g o x) : E90 B w' g o x := by
 obtain ⟨h0, h1, h2, h3, h4, h5, h6, h7, h8, h9, A, c, ha, hb⟩ := h
 exact ⟨hM.sc _ _ h0, hM.sc _ _ h1, hM.sc _ _ h2, hM.sc _ _ h3, hM.sc _ _ h4, hM.sc _ _ h5, hM.sc _ _ h6, hM.sc _ _ h7, hM.sc _ _ h8, hM.sc _ _ h9, A, c, hM.sl _ _ _ _ _ ha, hb.mk_ hM (fun _ _ _ hx => E85.mk_ hM hx)⟩
theorem E45.mk_ {g o : Nat} {x : S45} (h : E45 B w g o x) : E45 B w' g o x := by
 obtain ⟨h0, h1, ⟨A2, c2, a2, b2⟩, h3, ⟨A4, c4, a4, b4⟩, A5, c5, a5, b5⟩ := h
 exact ⟨hM.sc _ _ h0, hM.sc _ _ h1, ⟨A2, c2, hM.sl _ _ _ _ _ a2, b2.mk_ hM (fun _ _ _ hx => E90.mk_ hM hx)⟩, hM.sc _ _ h3, ⟨A4, c4, hM.sl _ _ _ _ _ a4, b4.mk_ hM (fun _ _ _ hx => E93.mk_ hM hx)⟩, A5, c5, hM.sl _ _ _ _ _ a5, b5.mk_ hM (fun _ _ _ hx => E4.mk_ hM hx)⟩
end
section
variable {B : Nat} {w : World} {ok : Nat → Prop}
theorem E85.of {x : S85} {c : List Value} {g o : Nat} (h : k85.M w B ok x c) (hc : ∀ j u, c[j]? = some u → w.cell? ⟨g, o + j, none⟩ = some u) : E85 w g o x := by
 obtain rfl := k85_openM h
 exact ⟨⟨_, hc 0 _ rfl, NS.int _ _⟩, ⟨_, hc 1 _ rfl, NS.int _ _⟩⟩
theorem E87.of {x : S87} {c : List Value} {g o : Nat} (h : k87.M w B ok x c) (hc : ∀ j u, c[j]? = some u → w.cell? ⟨g, o + j, none⟩ = some u) : E87 w g o x := by
 obtain rfl := k87_openM h
 exact ⟨⟨_, hc 0 _ rfl, NS.int _ _⟩, ⟨_, hc 1 _ rfl, NS.int _ _⟩, ⟨_, hc 2 _ rfl, NS.int _ _⟩, ⟨_, hc 3 _ rfl, NS.int _ _⟩, ⟨_, hc 4 _ rfl, NS.int _ _⟩, ⟨_, hc 5 _ rfl, NS.int _ _⟩⟩
theorem E93.of {x : S93} {c : List Value} {g o : Nat} (h : k93.M w B ok x c) (hc : ∀ j u, c[j]? = some u → w.cell? ⟨g, o + j, none⟩ = some u) : E93 w g o x := by
 obtain rfl := k93_openM h
 exact ⟨⟨_, hc 0 _ rfl, NS.int _ _⟩, ⟨_, hc 1 _ rfl, NS.int _ _⟩, ⟨_, hc 2 _ rfl, NS.int _ _⟩⟩
theorem E4.of {x : Bool} {c : List Value} {g o : Nat} (h : Kd.bool.M w B ok x c) (hc : ∀ j u, c[j]? = some u → w.cell? ⟨g, o + j, none⟩ = some u) : E4 w g o x := by
 obtain rfl := h
 exact ⟨_, hc 0 _ rfl, NS.bool _⟩
theorem E64.of {x : S64} {c : List Value} {g o : Nat} (h : k64.M w B ok x c) (hc : ∀ j u, c[j]? = some u → w.cell? ⟨g, o + j, none⟩ = some u) : E64 B w g o x := by
 obtain ⟨v0, rfl, h0⟩ := k64_openM h
 obtain ⟨A, c, rfl, hr⟩ := Row.of_R h0 E87 z87 (fun _ _ _ _ _ h c => E87.of h c)
 exact ⟨⟨A, c, hc 0 _ rfl, hr⟩, ⟨_, hc 1 _ rfl, NS.int _ _⟩⟩
theorem E90.of {x : S90} {c : List Value} {g o : Nat} (h : k90.M w B ok x c) (hc : ∀ j u, c[j]? = some u → w.cell? ⟨g, o + j, none⟩ = some u) : E90 B w g o x := by
 obtain ⟨v0, rfl, h0⟩ := k90_openM h
 obtain ⟨A, c, rfl, hr⟩ := Row.of_R h0 E85 z85 (fun _ _ _ _ _ h c => E85.of h c)
 exact ⟨⟨_, hc 0 _ rfl, NS.int _ _⟩, ⟨_, hc 1 _ rfl, NS.int _ _⟩, ⟨_, hc 2 _ rfl, NS.int _ _⟩, ⟨_, hc 3 _ rfl, NS.int _ _⟩, ⟨_, hc 4 _ rfl, NS.int _ _⟩, ⟨_, hc 5 _ rfl, NS.int _ _⟩, ⟨_, hc 6 _ rfl, NS.int _ _⟩, ⟨_, hc 7 _ rfl, NS.int _ _⟩, ⟨_, hc 8 _ rfl, NS.int _ _⟩, ⟨_, hc 9 _ rfl, NS.int _ _⟩, A, c, hc 10 _ rfl, hr⟩
theorem E45.of {x : S45} {c : List Value} {g o : Nat} (h : k45.M w B ok x c) (hc : ∀ j u, c[j]? = some u → w.cell? ⟨g, o + j, none⟩ = some u) : E45 B w g o x := by
 obtain ⟨v2, v4, v5, rfl, h2, h4, h5⟩ := k45_openM h
 obtain ⟨A2, c2, rfl, r2⟩ := Row.of_R h2 (E90 B) z90 (fun _ _ _ _ _ h c => E90.of h c)
 obtain ⟨A4, c4, rfl, r4⟩ := Row.of_R h4 E93 z93 (fun _ _ _ _ _ h c => E93.of h c)
 obtain ⟨A5, c5, rfl, r5⟩ := Row.of_R h5 E4 false (fun _ _ _ _ _ h c => E4.of h c)
 exact ⟨⟨_, hc 0 _ rfl, NS.int _ _⟩, ⟨_, hc 1 _ rfl, NS.int _ _⟩, ⟨A2, c2, hc 2 _ rfl, r2⟩, ⟨_, hc 3 _ rfl, NS.int _ _⟩, ⟨A4, c4, hc 4 _ rfl, r4⟩, A5, c5, hc 5 _ rfl, r5⟩
end
/-- The counter, so many marks on. -/
def up : Nat → Int → Int
 | 0, x => x
 | n + 1, x => up n (wrap64 (x + 1))
def tot {α : Type} (f : α → Nat) : List α → Nat
 | [] => 0
 | x :: xs => f x + tot f xs
theorem up_add (a b : Nat) (x : Int) : up (a + b) x = up b (up a x) := by
 induction a generalizing x with
 | zero => rw [Nat.zero_add]; rfl
 | succ a ih => rw [Nat.succ_add]; exact ih _
theorem tot_drop {α : Type} (f : α → Nat) (z : α) : ∀ (xs : List α) (i : Nat), i < xs.length → tot f (xs.drop i) = f (xs.getD i z) + tot f (xs.drop (i + 1))
 | x :: xs, 0, _ => rfl
 | x :: xs, i + 1, h => tot_drop f z xs i (by simpa using h)
theorem tot_get {α : Type} (f : α → Nat) (z : α) : ∀ (xs : List α) (i : Nat), i < xs.length → f (xs.getD i z) ≤ tot f xs
 | x :: xs, 0, _ => Nat.le_add_right _ _
 | x :: xs, i + 1, h => Nat.le_trans (tot_get f z xs i (by simpa using h)) (Nat.le_add_left _ _)
theorem tot_one {α : Type} (f : α → Nat) (h : ∀ x, 1 ≤ f x) : ∀ xs : List α, xs.length ≤ tot f xs
 | [] => Nat.le_refl _
 | x :: xs => by
  have := tot_one f h xs
  have := h x
  show xs.length + 1 ≤ f x + tot f xs
  omega
theorem wrap_next {x : Int} {n : Nat} (h0 : 0 ≤ x) (h1 : x < (n : Int)) (hn : n ≤ 4611686018427387904) : wrap64 (x + 1) = x + 1 := by unfold wrap64; omega
def c64 (x : S64) : Nat := tot (fun _ => 6) x.f0 + 1
def c90 (x : S90) : Nat := 10 + tot (fun _ => 2) x.f4
def c45 (x : S45) : Nat := 2 + tot c90 x.f2 + 1 + tot (fun _ => 3) x.f4 + tot (fun _ => 1) x.f5
theorem c64_eq (x : S64) : c64 x = tot (fun _ => 6) x.f0 + 1 := rfl
theorem c90_eq (x : S90) : c90 x = 10 + tot (fun _ => 2) x.f4 := rfl
theorem c45_eq (x : S45) : c45 x = 2 + tot c90 x.f2 + 1 + tot (fun _ => 3) x.f4 + tot (fun _ => 1) x.f5 := rfl
set_option maxHeartbeats 8000000 in
set_option maxRecDepth 100000 in
theorem laws_markDecDecS.mk (w0 w : World) (hB : Below w0.heap.size w0 w) (A : Option Addr) (c : Nat) (xs : List S85) (a1 : Int) (hr : Row w w0.heap.size 85 2 E85 z85 A xs) (hn : tot (fun _ => 2) xs ≤ 4611686018427387904) :
  Calls Try.prog 45 #[.slice A xs.length c, .int .i64 a1] w fun e w' => e = .returned (.int .i64 (up (tot (fun _ => 2) xs) a1)) ∧ Below w0.heap.size w0 w' ∧ MK w0.heap.size w w' := by
 have hu85 := Try.underlying85
 have HL := Aside0.mk (Nat.le_trans (tot_one (fun _ => 2) (fun x => by first | exact Nat.le_refl _ | (show 1 ≤ _; first | decide | (try unfold c64); (try unfold c90); (try unfold c45); omega)) xs) hn)
 have HN := Aside0.mk hn
 have HB := Aside0.mk hB
 have HR := Aside0.mk hr
 clear hB hr hn
 go_enter Try.func45, Try.ntmps45
 go_wp2
 go_loopg [1, 5] xs.length (fun kq v1 v5 w' => ∃ (x1 x5 : Int), v1 = .int .i64 x1 ∧ v5 = .int .i64 x5 ∧ Aside0 (0 ≤ x5 ∧ x5 + (kq : Int) = (xs.length : Int) ∧ up (tot (fun _ => 2) (xs.drop x5.toNat)) x1 = up (tot (fun _ => 2) xs) a1) ∧ Aside0 (Below w0.heap.size w0 w') ∧ Aside0 (MK w0.heap.size w w'))
 case atStart => exact ⟨a1, 0, (by first | rfl | (simp; done)), (by first | rfl | (simp; done)), ⟨Int.le_refl _, by omega, rfl⟩, ⟨(vW0 HB.out)⟩, ⟨MK.below _ (by repeat (first | (with_reducible first | exact Below.refl _ _ | apply below_alloc | apply pw_below_drewN | apply below_drew1) | exact Below.refl _ _))⟩⟩
 case round =>
  clear HB
  obtain ⟨x1, x5, rfl, rfl, HI, HB, HM⟩ := hrel
  by_cases c3 : x5 < (xs.length : Int)
  ·have c3b0 : decide (x5 < (xs.length : Int)) = true := decide_eq_true c3
   obtain ⟨k1, rfl⟩ : ∃ k1, gk = k1 + 1 := ⟨gk - 1, by have := HI.out.2.1; omega⟩
   have p5 := HI.out.1
   have hwn := wrap_next p5 c3 HL.out
   obtain ⟨g, rfl, hgB, hT, hE⟩ := (HR.out.mk_ HM.out (fun _ _ _ hx => E85.mk_ HM.out hx)).at_ x5 p5 c3
   have htot := tot_get (fun _ => 2) z85 xs x5.toNat (by omega)
   have hdrop := tot_drop (fun _ => 2) z85 xs x5.toNat (by omega)
   generalize hel : xs.getD x5.toNat z85 = el at hE htot hdrop
   clear hel
   have HT := Aside0.mk hT
   have HE := Aside0.mk hE
   have GB := Aside0.mk hgB
   have HQ := Aside0.mk htot
   have HD := Aside0.mk hdrop
   have HW := Aside0.mk hwn
   clear hT hE hgB htot hdrop hwn
   replace p5 := eq_true p5
   replace c3 := eq_true c3
   obtain ⟨ov0, hx0, _⟩ := HE.out.1
   have hf0 : wr.frozen? ⟨g, x5.toNat * 2, none⟩ = false := HT.out.frozen _
   go_wp2_with (first | ((with_reducible refine gate_store (t := 3) (p := 16) rfl ?_); refine store_event (t := 3) (p := 16) (v := ?vo0_) (w1 := (wr.setCell ⟨g, x5.toNat * 2, none⟩ (.int .i64 (x1)))) ?hg ?ho ?hn ?hr ?_; (case ho => rfl); (case hg => rfl); (case hn => rfl); (case hr => first | (go_simp; done) | (go_simp; rfl)); intro w0_ hw; have M1 : MK w0.heap.size wr w0_ := (by rw [hw]; exact MK.store HT.out (by unfold mkT; omega) GB.out (by have h_ := HE.out.1; (try unfold E4 at h_); simpa using h_) (NS.int _ _)); have HB1 : Below w0.heap.size w0 w0_ := (by rw [hw]; exact below_set HB.out GB.out); clear hw; clear hx0 hf0; have n0_ := Aside0.mk (HM.out.trans M1); have n1_ := Aside0.mk (M1.tb _ _ HT.out); have n2_ := Aside0.mk (E85.mk_ M1 HE.out); have n3_ := Aside0.mk HB1; clear HM HT HE HB M1 HB1; have HM := n0_; have HT := n1_; have HE := n2_; have HB := n3_; clear n0_ n1_ n2_ n3_; obtain ⟨ov1, hx1, _⟩ := HE.out.2; have hf1 : w0_.frozen? ⟨g, x5.toNat * 2 + 1, none⟩ = false := HT.out.frozen _) | ((with_reducible refine gate_store (t := 3) (p := 23) rfl ?_); refine store_event (t := 3) (p := 23) (v := ?vo1_) (w1 := (w0_.setCell ⟨g, x5.toNat * 2 + 1, none⟩ (.int .i64 (wrap64 (x1 + 1))))) ?hg ?ho ?hn ?hr ?_; (case ho => rfl); (case hg => rfl); (case hn => rfl); (case hr => first | (go_simp; done) | (go_simp; rfl)); intro w1_ hw; have M1 : MK w0.heap.size w0_ w1_ := (by rw [hw]; exact MK.store HT.out (by unfold mkT; omega) GB.out (by have h_ := HE.out.2; (try unfold E4 at h_); simpa using h_) (NS.int _ _)); have HB1 : Below w0.heap.size w0 w1_ := (by rw [hw]; exact below_set HB.out GB.out); clear hw; clear hx1 hf1; have n0_ := Aside0.mk (HM.out.trans M1); have n1_ := Aside0.mk (M1.tb _ _ HT.out); have n2_ := Aside0.mk (E85.mk_ M1 HE.out); have n3_ := Aside0.mk HB1; clear HM HT HE HB M1 HB1; have HM := n0_; have HT := n1_; have HE := n2_; have HB := n3_; clear n0_ n1_ n2_ n3_))
   go_roundg k1
   case measure => omega
   case rel =>
    refine ⟨wrap64 (wrap64 (x1 + 1) + 1), wrap64 (x5 + 1), (by first | rfl | (simp; done) | (simp [*]; done)), (by first | rfl | (simp; done) | (simp [*]; done)), ⟨?_, ?_, ?_⟩, ⟨(vW0 HB.out)⟩, ⟨HM.out.trans (MK.below _ (by repeat (first | (with_reducible first | exact Below.refl _ _ | apply below_alloc | apply pw_below_drewN | apply below_drew1) | exact Below.refl _ _)))⟩⟩
    ·rw [HW.out]; have := HI.out.1; omega
    ·rw [HW.out]; have := HI.out.2.1; omega
    ·have h0 := HI.out.1
     have e0 : (wrap64 (x5 + 1)).toNat = x5.toNat + 1 := by rw [HW.out]; omega
     have e1 := HI.out.2.2
     rw [HD.out, up_add] at e1
     rw [e0]
     refine Eq.trans (congrArg _ ?_) e1
     first
     | rfl
     | (symm; (try unfold c64); (try unfold c90); (try unfold c45); simp only [up_add]; rfl)
  ·have c3b0 : decide (x5 < (xs.length : Int)) = false := decide_eq_false c3
   have hz : xs.drop x5.toNat = [] := List.drop_eq_nil_of_le (by have := HI.out.1; omega)
   have e1 := HI.out.2.2
   rw [hz] at e1
   have HX := Aside0.mk (show x1 = _ from e1)
   clear e1 hz c3
   go_wp2
   go_ret
   exact ⟨by rw [← HX.out]; rfl, (vW0 HB.out), HM.out.trans (MK.below _ (by repeat (first | (with_reducible first | exact Below.refl _ _ | apply below_alloc | apply pw_below_drewN | apply below_drew1) | exact Below.refl _ _)))⟩
set_option maxHeartbeats 8000000 in
set_option maxRecDepth 100000 in
theorem laws_markBatSigS.mk (w0 w : World) (hB : Below w0.heap.size w0 w) (A : Option Addr) (c : Nat) (xs : List S93) (a1 : Int) (hr : Row w w0.heap.size 93 3 E93 z93 A xs) (hn : tot (fun _ => 3) xs ≤ 4611686018427387904) :
  Calls Try.prog 31 #[.slice A xs.length c, .int .i64 a1] w fun e w' => e = .returned (.int .i64 (up (tot (fun _ => 3) xs) a1)) ∧ Below w0.heap.size w0 w' ∧ MK w0.heap.size w w' := by
 have hu93 := Try.underlying93
 have HL := Aside0.mk (Nat.le_trans (tot_one (fun _ => 3) (fun x => by first | exact Nat.le_refl _ | (show 1 ≤ _; first | decide | (try unfold c64); (try unfold c90); (try unfold c45); omega)) xs) hn)
 have HN := Aside0.mk hn
 have HB := Aside0.mk hB
 have HR := Aside0.mk hr
 clear hB hr hn
 go_enter Try.func31, Try.ntmps31
 go_wp2
 go_loopg [1, 5] xs.length (fun kq v1 v5 w' => ∃ (x1 x5 : Int), v1 = .int .i64 x1 ∧ v5 = .int .i64 x5 ∧ Aside0 (0 ≤ x5 ∧ x5 + (kq : Int) = (xs.length : Int) ∧ up (tot (fun _ => 3) (xs.drop x5.toNat)) x1 = up (tot (fun _ => 3) xs) a1) ∧ Aside0 (Below w0.heap.size w0 w') ∧ Aside0 (MK w0.heap.size w w'))
 case atStart => exact ⟨a1, 0, (by first | rfl | (simp; done)), (by first | rfl | (simp; done)), ⟨Int.le_refl _, by omega, rfl⟩, ⟨(vW0 HB.out)⟩, ⟨MK.below _ (by repeat (first | (with_reducible first | exact Below.refl _ _ | apply below_alloc | apply pw_below_drewN | apply below_drew1) | exact Below.refl _ _))⟩⟩
 case round =>
  clear HB
  obtain ⟨x1, x5, rfl, rfl, HI, HB, HM⟩ := hrel
  by_cases c3 : x5 < (xs.length : Int)
  ·have c3b0 : decide (x5 < (xs.length : Int)) = true := decide_eq_true c3
   obtain ⟨k1, rfl⟩ : ∃ k1, gk = k1 + 1 := ⟨gk - 1, by have := HI.out.2.1; omega⟩
   have p5 := HI.out.1
   have hwn := wrap_next p5 c3 HL.out
   obtain ⟨g, rfl, hgB, hT, hE⟩ := (HR.out.mk_ HM.out (fun _ _ _ hx => E93.mk_ HM.out hx)).at_ x5 p5 c3
   have htot := tot_get (fun _ => 3) z93 xs x5.toNat (by omega)
   have hdrop := tot_drop (fun _ => 3) z93 xs x5.toNat (by omega)
   generalize hel : xs.getD x5.toNat z93 = el at hE htot hdrop
   clear hel
   have HT := Aside0.mk hT
   have HE := Aside0.mk hE
   have GB := Aside0.mk hgB
   have HQ := Aside0.mk htot
   have HD := Aside0.mk hdrop
   have HW := Aside0.mk hwn
   clear hT hE hgB htot hdrop hwn
   replace p5 := eq_true p5
   replace c3 := eq_true c3
   obtain ⟨ov0, hx0, _⟩ := HE.out.1
   have hf0 : wr.frozen? ⟨g, x5.toNat * 3, none⟩ = false := HT.out.frozen _
   go_wp2_with (first | ((with_reducible refine gate_store (t := 3) (p := 16) rfl ?_); refine store_event (t := 3) (p := 16) (v := ?vo0_) (w1 := (wr.setCell ⟨g, x5.toNat * 3, none⟩ (.int .i64 (x1)))) ?hg ?ho ?hn ?hr ?_; (case ho => rfl); (case hg => rfl); (case hn => rfl); (case hr => first | (go_simp; done) | (go_simp; rfl)); intro w0_ hw; have M1 : MK w0.heap.size wr w0_ := (by rw [hw]; exact MK.store HT.out (by unfold mkT; omega) GB.out (by have h_ := HE.out.1; (try unfold E4 at h_); simpa using h_) (NS.int _ _)); have HB1 : Below w0.heap.size w0 w0_ := (by rw [hw]; exact below_set HB.out GB.out); clear hw; clear hx0 hf0; have n0_ := Aside0.mk (HM.out.trans M1); have n1_ := Aside0.mk (M1.tb _ _ HT.out); have n2_ := Aside0.mk (E93.mk_ M1 HE.out); have n3_ := Aside0.mk HB1; clear HM HT HE HB M1 HB1; have HM := n0_; have HT := n1_; have HE := n2_; have HB := n3_; clear n0_ n1_ n2_ n3_; obtain ⟨ov1, hx1, _⟩ := HE.out.2.1; have hf1 : w0_.frozen? ⟨g, x5.toNat * 3 + 1, none⟩ = false := HT.out.frozen _) | ((with_reducible refine gate_store (t := 3) (p := 23) rfl ?_); refine store_event (t := 3) (p := 23) (v := ?vo1_) (w1 := (w0_.setCell ⟨g, x5.toNat * 3 + 1, none⟩ (.int .i64 (wrap64 (x1 + 1))))) ?hg ?ho ?hn ?hr ?_; (case ho => rfl); (case hg => rfl); (case hn => rfl); (case hr => first | (go_simp; done) | (go_simp; rfl)); intro w1_ hw; have M1 : MK w0.heap.size w0_ w1_ := (by rw [hw]; exact MK.store HT.out (by unfold mkT; omega) GB.out (by have h_ := HE.out.2.1; (try unfold E4 at h_); simpa using h_) (NS.int _ _)); have HB1 : Below w0.heap.size w0 w1_ := (by rw [hw]; exact below_set HB.out GB.out); clear hw; clear hx1 hf1; have n0_ := Aside0.mk (HM.out.trans M1); have n1_ := Aside0.mk (M1.tb _ _ HT.out); have n2_ := Aside0.mk (E93.mk_ M1 HE.out); have n3_ := Aside0.mk HB1; clear HM HT HE HB M1 HB1; have HM := n0_; have HT := n1_; have HE := n2_; have HB := n3_; clear n0_ n1_ n2_ n3_; obtain ⟨ov2, hx2, _⟩ := HE.out.2.2; have hf2 : w1_.frozen? ⟨g, x5.toNat * 3 + 2, none⟩ = false := HT.out.frozen _) | ((with_reducible refine gate_store (t := 3) (p := 30) rfl ?_); refine store_event (t := 3) (p := 30) (v := ?vo2_) (w1 := (w1_.setCell ⟨g, x5.toNat * 3 + 2, none⟩ (.int .i64 (wrap64 (wrap64 (x1 + 1) + 1))))) ?hg ?ho ?hn ?hr ?_; (case ho => rfl); (case hg => rfl); (case hn => rfl); (case hr => first | (go_simp; done) | (go_simp; rfl)); intro w2_ hw; have M1 : MK w0.heap.size w1_ w2_ := (by rw [hw]; exact MK.store HT.out (by unfold mkT; omega) GB.out (by have h_ := HE.out.2.2; (try unfold E4 at h_); simpa using h_) (NS.int _ _)); have HB1 : Below w0.heap.size w0 w2_ := (by rw [hw]; exact below_set HB.out GB.out); clear hw; clear hx2 hf2; have n0_ := Aside0.mk (HM.out.trans M1); have n1_ := Aside0.mk (M1.tb _ _ HT.out); have n2_ := Aside0.mk (E93.mk_ M1 HE.out); have n3_ := Aside0.mk HB1; clear HM HT HE HB M1 HB1; have HM := n0_; have HT := n1_; have HE := n2_; have HB := n3_; clear n0_ n1_ n2_ n3_))
   go_roundg k1
   case measure => omega
   case rel =>
    refine ⟨wrap64 (wrap64 (wrap64 (x1 + 1) + 1) + 1), wrap64 (x5 + 1), (by first | rfl | (simp; done) | (simp [*]; done)), (by first | rfl | (simp; done) | (simp [*]; done)), ⟨?_, ?_, ?_⟩, ⟨(vW0 HB.out)⟩, ⟨HM.out.trans (MK.below _ (by repeat (first | (with_reducible first | exact Below.refl _ _ | apply below_alloc | apply pw_below_drewN | apply below_drew1) | exact Below.refl _ _)))⟩⟩
    ·rw [HW.out]; have := HI.out.1; omega
    ·rw [HW.out]; have := HI.out.2.1; omega
    ·have h0 := HI.out.1
     have e0 : (wrap64 (x5 + 1)).toNat = x5.toNat + 1 := by rw [HW.out]; omega
     have e1 := HI.out.2.2
     rw [HD.out, up_add] at e1
     rw [e0]
     refine Eq.trans (congrArg _ ?_) e1
     first
     | rfl
     | (symm; (try unfold c64); (try unfold c90); (try unfold c45); simp only [up_add]; rfl)
  ·have c3b0 : decide (x5 < (xs.length : Int)) = false := decide_eq_false c3
   have hz : xs.drop x5.toNat = [] := List.drop_eq_nil_of_le (by have := HI.out.1; omega)
   have e1 := HI.out.2.2
   rw [hz] at e1
   have HX := Aside0.mk (show x1 = _ from e1)
   clear e1 hz c3
   go_wp2
   go_ret
   exact ⟨by rw [← HX.out]; rfl, (vW0 HB.out), HM.out.trans (MK.below _ (by repeat (first | (with_reducible first | exact Below.refl _ _ | apply below_alloc | apply pw_below_drewN | apply below_drew1) | exact Below.refl _ _)))⟩
set_option maxHeartbeats 8000000 in
set_option maxRecDepth 100000 in
theorem laws_markBoolS.mk (w0 w : World) (hB : Below w0.heap.size w0 w) (A : Option Addr) (c : Nat) (xs : List Bool) (a1 : Int) (hr : Row w w0.heap.size 4 1 E4 false A xs) (hn : tot (fun _ => 1) xs ≤ 4611686018427387904) :
  Calls Try.prog 32 #[.slice A xs.length c, .int .i64 a1] w fun e w' => e = .returned (.int .i64 (up (tot (fun _ => 1) xs) a1)) ∧ Below w0.heap.size w0 w' ∧ MK w0.heap.size w w' := by
 have HL := Aside0.mk (Nat.le_trans (tot_one (fun _ => 1) (fun x => by first | exact Nat.le_refl _ | (show 1 ≤ _; first | decide | (try unfold c64); (try unfold c90); (try unfold c45); omega)) xs) hn)
 have HN := Aside0.mk hn
 have HB := Aside0.mk hB
 have HR := Aside0.mk hr
 clear hB hr hn
 go_enter Try.func32, Try.ntmps32
 go_wp2
 go_loopg [1, 5] xs.length (fun kq v1 v5 w' => ∃ (x1 x5 : Int), v1 = .int .i64 x1 ∧ v5 = .int .i64 x5 ∧ Aside0 (0 ≤ x5 ∧ x5 + (kq : Int) = (xs.length : Int) ∧ up (tot (fun _ => 1) (xs.drop x5.toNat)) x1 = up (tot (fun _ => 1) xs) a1) ∧ Aside0 (Below w0.heap.size w0 w') ∧ Aside0 (MK w0.heap.size w w'))
 case atStart => exact ⟨a1, 0, (by first | rfl | (simp; done)), (by first | rfl | (simp; done)), ⟨Int.le_refl _, by omega, rfl⟩, ⟨(vW0 HB.out)⟩, ⟨MK.below _ (by repeat (first | (with_reducible first | exact Below.refl _ _ | apply below_alloc | apply pw_below_drewN | apply below_drew1) | exact Below.refl _ _))⟩⟩
 case round =>
  clear HB
  obtain ⟨x1, x5, rfl, rfl, HI, HB, HM⟩ := hrel
  by_cases c3 : x5 < (xs.length : Int)
  ·have c3b0 : decide (x5 < (xs.length : Int)) = true := decide_eq_true c3
   obtain ⟨k1, rfl⟩ : ∃ k1, gk = k1 + 1 := ⟨gk - 1, by have := HI.out.2.1; omega⟩
   have p5 := HI.out.1
   have hwn := wrap_next p5 c3 HL.out
   obtain ⟨g, rfl, hgB, hT, hE⟩ := (HR.out.mk_ HM.out (fun _ _ _ hx => E4.mk_ HM.out hx)).at_ x5 p5 c3
   have htot := tot_get (fun _ => 1) false xs x5.toNat (by omega)
   have hdrop := tot_drop (fun _ => 1) false xs x5.toNat (by omega)
   generalize hel : xs.getD x5.toNat false = el at hE htot hdrop
   clear hel
   have HT := Aside0.mk hT
   have HE := Aside0.mk hE
   have GB := Aside0.mk hgB
   have HQ := Aside0.mk htot
   have HD := Aside0.mk hdrop
   have HW := Aside0.mk hwn
   clear hT hE hgB htot hdrop hwn
   replace p5 := eq_true p5
   replace c3 := eq_true c3
   obtain ⟨ov0, hx0, _⟩ := HE.out
   have hf0 : wr.frozen? ⟨g, x5.toNat, none⟩ = false := HT.out.frozen _
   (try simp only [Nat.mul_one] at hx0)
   go_wp2_with (first | ((with_reducible refine gate_store (t := 4) (p := 17) rfl ?_); refine store_event (t := 4) (p := 17) (v := ?vo0_) (w1 := (wr.setCell ⟨g, x5.toNat, none⟩ (.bool (x1.tmod 3 == 0)))) ?hg ?ho ?hn ?hr ?_; (case ho => rfl); (case hg => rfl); (case hn => rfl); (case hr => first | (go_simp; done) | (go_simp; rfl)); intro w0_ hw; have M1 : MK w0.heap.size wr w0_ := (by rw [hw]; exact MK.store HT.out (by unfold mkT; omega) GB.out (by have h_ := HE.out; (try unfold E4 at h_); simpa using h_) (NS.bool _)); have HB1 : Below w0.heap.size w0 w0_ := (by rw [hw]; exact below_set HB.out GB.out); clear hw; clear hx0 hf0; have n0_ := Aside0.mk (HM.out.trans M1); have n1_ := Aside0.mk (M1.tb _ _ HT.out); have n2_ := Aside0.mk (E4.mk_ M1 HE.out); have n3_ := Aside0.mk HB1; clear HM HT HE HB M1 HB1; have HM := n0_; have HT := n1_; have HE := n2_; have HB := n3_; clear n0_ n1_ n2_ n3_))
   go_roundg k1
   case measure => omega
   case rel =>
    refine ⟨wrap64 (x1 + 1), wrap64 (x5 + 1), (by first | rfl | (simp; done) | (simp [*]; done)), (by first | rfl | (simp; done) | (simp [*]; done)), ⟨?_, ?_, ?_⟩, ⟨(vW0 HB.out)⟩, ⟨HM.out.trans (MK.below _ (by repeat (first | (with_reducible first | exact Below.refl _ _ | apply below_alloc | apply pw_below_drewN | apply below_drew1) | exact Below.refl _ _)))⟩⟩
    ·rw [HW.out]; have := HI.out.1; omega
    ·rw [HW.out]; have := HI.out.2.1; omega
    ·have h0 := HI.out.1
     have e0 : (wrap64 (x5 + 1)).toNat = x5.toNat + 1 := by rw [HW.out]; omega
     have e1 := HI.out.2.2
     rw [HD.out, up_add] at e1
     rw [e0]
     refine Eq.trans (congrArg _ ?_) e1
     first
     | rfl
     | (symm; (try unfold c64); (try unfold c90); (try unfold c45); simp only [up_add]; rfl)
  ·have c3b0 : decide (x5 < (xs.length : Int)) = false := decide_eq_false c3
   have hz : xs.drop x5.toNat = [] := List.drop_eq_nil_of_le (by have := HI.out.1; omega)
   have e1 := HI.out.2.2
   rw [hz] at e1
   have HX := Aside0.mk (show x1 = _ from e1)
   clear e1 hz c3
   go_wp2
   go_ret
   exact ⟨by rw [← HX.out]; rfl, (vW0 HB.out), HM.out.trans (MK.below _ (by repeat (first | (with_reducible first | exact Below.refl _ _ | apply below_alloc | apply pw_below_drewN | apply below_drew1) | exact Below.refl _ _)))⟩
set_option maxHeartbeats 8000000 in
set_option maxRecDepth 100000 in
theorem laws_markSpcTestS.mk (w0 w : World) (hB : Below w0.heap.size w0 w) (A : Option Addr) (c : Nat) (xs : List S87) (a1 : Int) (hr : Row w w0.heap.size 87 6 E87 z87 A xs) (hn : tot (fun _ => 6) xs ≤ 4611686018427387904) :
  Calls Try.prog 29 #[.slice A xs.length c, .int .i64 a1] w fun e w' => e = .returned (.int .i64 (up (tot (fun _ => 6) xs) a1)) ∧ Below w0.heap.size w0 w' ∧ MK w0.heap.size w w' := by
 have hu87 := Try.underlying87
 have hu85 := Try.underlying85
 have HL := Aside0.mk (Nat.le_trans (tot_one (fun _ => 6) (fun x => by first | exact Nat.le_refl _ | (show 1 ≤ _; first | decide | (try unfold c64); (try unfold c90); (try unfold c45); omega)) xs) hn)
 have HN := Aside0.mk hn
 have HB := Aside0.mk hB
 have HR := Aside0.mk hr
 clear hB hr hn
 go_enter Try.func29, Try.ntmps29
 go_wp2
 go_loopg [1, 5] xs.length (fun kq v1 v5 w' => ∃ (x1 x5 : Int), v1 = .int .i64 x1 ∧ v5 = .int .i64 x5 ∧ Aside0 (0 ≤ x5 ∧ x5 + (kq : Int) = (xs.length : Int) ∧ up (tot (fun _ => 6) (xs.drop x5.toNat)) x1 = up (tot (fun _ => 6) xs) a1) ∧ Aside0 (Below w0.heap.size w0 w') ∧ Aside0 (MK w0.heap.size w w'))
 case atStart => exact ⟨a1, 0, (by first | rfl | (simp; done)), (by first | rfl | (simp; done)), ⟨Int.le_refl _, by omega, rfl⟩, ⟨(vW0 HB.out)⟩, ⟨MK.below _ (by repeat (first | (with_reducible first | exact Below.refl _ _ | apply below_alloc | apply pw_below_drewN | apply below_drew1) | exact Below.refl _ _))⟩⟩
 case round =>
  clear HB
  obtain ⟨x1, x5, rfl, rfl, HI, HB, HM⟩ := hrel
  by_cases c3 : x5 < (xs.length : Int)
  ·have c3b0 : decide (x5 < (xs.length : Int)) = true := decide_eq_true c3
   obtain ⟨k1, rfl⟩ : ∃ k1, gk = k1 + 1 := ⟨gk - 1, by have := HI.out.2.1; omega⟩
   have p5 := HI.out.1
   have hwn := wrap_next p5 c3 HL.out
   obtain ⟨g, rfl, hgB, hT, hE⟩ := (HR.out.mk_ HM.out (fun _ _ _ hx => E87.mk_ HM.out hx)).at_ x5 p5 c3
   have htot := tot_get (fun _ => 6) z87 xs x5.toNat (by omega)
   have hdrop := tot_drop (fun _ => 6) z87 xs x5.toNat (by omega)
   generalize hel : xs.getD x5.toNat z87 = el at hE htot hdrop
   clear hel
   have HT := Aside0.mk hT
   have HE := Aside0.mk hE
   have GB := Aside0.mk hgB
   have HQ := Aside0.mk htot
   have HD := Aside0.mk hdrop
   have HW := Aside0.mk hwn
   clear hT hE hgB htot hdrop hwn
   replace p5 := eq_true p5
   replace c3 := eq_true c3
   obtain ⟨ov0, hx0, _⟩ := HE.out.1
   have hf0 : wr.frozen? ⟨g, x5.toNat * 6, none⟩ = false := HT.out.frozen _
   go_wp2_with (first | ((with_reducible refine gate_store (t := 3) (p := 16) rfl ?_); refine store_event (t := 3) (p := 16) (v := ?vo0_) (w1 := (wr.setCell ⟨g, x5.toNat * 6, none⟩ (.int .i64 (x1)))) ?hg ?ho ?hn ?hr ?_; (case ho => rfl); (case hg => rfl); (case hn => rfl); (case hr => first | (go_simp; done) | (go_simp; rfl)); intro w0_ hw; have M1 : MK w0.heap.size wr w0_ := (by rw [hw]; exact MK.store HT.out (by unfold mkT; omega) GB.out (by have h_ := HE.out.1; (try unfold E4 at h_); simpa using h_) (NS.int _ _)); have HB1 : Below w0.heap.size w0 w0_ := (by rw [hw]; exact below_set HB.out GB.out); clear hw; clear hx0 hf0; have n0_ := Aside0.mk (HM.out.trans M1); have n1_ := Aside0.mk (M1.tb _ _ HT.out); have n2_ := Aside0.mk (E87.mk_ M1 HE.out); have n3_ := Aside0.mk HB1; clear HM HT HE HB M1 HB1; have HM := n0_; have HT := n1_; have HE := n2_; have HB := n3_; clear n0_ n1_ n2_ n3_; obtain ⟨ov1, hx1, _⟩ := HE.out.2.1; have hf1 : w0_.frozen? ⟨g, x5.toNat * 6 + 1, none⟩ = false := HT.out.frozen _) | ((with_reducible refine gate_store (t := 3) (p := 24) rfl ?_); refine store_event (t := 3) (p := 24) (v := ?vo1_) (w1 := (w0_.setCell ⟨g, x5.toNat * 6 + 1, none⟩ (.int .i64 (wrap64 (x1 + 1))))) ?hg ?ho ?hn ?hr ?_; (case ho => rfl); (case hg => rfl); (case hn => rfl); (case hr => first | (go_simp; done) | (go_simp; rfl)); intro w1_ hw; have M1 : MK w0.heap.size w0_ w1_ := (by rw [hw]; exact MK.store HT.out (by unfold mkT; omega) GB.out (by have h_ := HE.out.2.1; (try unfold E4 at h_); simpa using h_) (NS.int _ _)); have HB1 : Below w0.heap.size w0 w1_ := (by rw [hw]; exact below_set HB.out GB.out); clear hw; clear hx1 hf1; have n0_ := Aside0.mk (HM.out.trans M1); have n1_ := Aside0.mk (M1.tb _ _ HT.out); have n2_ := Aside0.mk (E87.mk_ M1 HE.out); have n3_ := Aside0.mk HB1; clear HM HT HE HB M1 HB1; have HM := n0_; have HT := n1_; have HE := n2_; have HB := n3_; clear n0_ n1_ n2_ n3_; obtain ⟨ov2, hx2, _⟩ := HE.out.2.2.1; have hf2 : w1_.frozen? ⟨g, x5.toNat * 6 + 2, none⟩ = false := HT.out.frozen _) | ((with_reducible refine gate_store (t := 3) (p := 32) rfl ?_); refine store_event (t := 3) (p := 32) (v := ?vo2_) (w1 := (w1_.setCell ⟨g, x5.toNat * 6 + 2, none⟩ (.int .i64 (wrap64 (wrap64 (x1 + 1) + 1))))) ?hg ?ho ?hn ?hr ?_; (case ho => rfl); (case hg => rfl); (case hn => rfl); (case hr => first | (go_simp; done) | (go_simp; rfl)); intro w2_ hw; have M1 : MK w0.heap.size w1_ w2_ := (by rw [hw]; exact MK.store HT.out (by unfold mkT; omega) GB.out (by have h_ := HE.out.2.2.1; (try unfold E4 at h_); simpa using h_) (NS.int _ _)); have HB1 : Below w0.heap.size w0 w2_ := (by rw [hw]; exact below_set HB.out GB.out); clear hw; clear hx2 hf2; have n0_ := Aside0.mk (HM.out.trans M1); have n1_ := Aside0.mk (M1.tb _ _ HT.out); have n2_ := Aside0.mk (E87.mk_ M1 HE.out); have n3_ := Aside0.mk HB1; clear HM HT HE HB M1 HB1; have HM := n0_; have HT := n1_; have HE := n2_; have HB := n3_; clear n0_ n1_ n2_ n3_; obtain ⟨ov3, hx3, _⟩ := HE.out.2.2.2.1; have hf3 : w2_.frozen? ⟨g, x5.toNat * 6 + 3, none⟩ = false := HT.out.frozen _) | ((with_reducible refine gate_store (t := 3) (p := 40) rfl ?_); refine store_event (t := 3) (p := 40) (v := ?vo3_) (w1 := (w2_.setCell ⟨g, x5.toNat * 6 + 3, none⟩ (.int .i64 (wrap64 (wrap64 (wrap64 (x1 + 1) + 1) + 1))))) ?hg ?ho ?hn ?hr ?_; (case ho => rfl); (case hg => rfl); (case hn => rfl); (case hr => first | (go_simp; done) | (go_simp; rfl)); intro w3_ hw; have M1 : MK w0.heap.size w2_ w3_ := (by rw [hw]; exact MK.store HT.out (by unfold mkT; omega) GB.out (by have h_ := HE.out.2.2.2.1; (try unfold E4 at h_); simpa using h_) (NS.int _ _)); have HB1 : Below w0.heap.size w0 w3_ := (by rw [hw]; exact below_set HB.out GB.out); clear hw; clear hx3 hf3; have n0_ := Aside0.mk (HM.out.trans M1); have n1_ := Aside0.mk (M1.tb _ _ HT.out); have n2_ := Aside0.mk (E87.mk_ M1 HE.out); have n3_ := Aside0.mk HB1; clear HM HT HE HB M1 HB1; have HM := n0_; have HT := n1_; have HE := n2_; have HB := n3_; clear n0_ n1_ n2_ n3_; obtain ⟨ov4, hx4, _⟩ := HE.out.2.2.2.2.1; have hf4 : w3_.frozen? ⟨g, x5.toNat * 6 + 4, none⟩ = false := HT.out.frozen _) | ((with_reducible refine gate_store (t := 3) (p := 48) rfl ?_); refine store_event (t := 3) (p := 48) (v := ?vo4_) (w1 := (w3_.setCell ⟨g, x5.toNat * 6 + 4, none⟩ (.int .i64 (wrap64 (wrap64 (wrap64 (wrap64 (x1 + 1) + 1) + 1) + 1))))) ?hg ?ho ?hn ?hr ?_; (case ho => rfl); (case hg => rfl); (case hn => rfl); (case hr => first | (go_simp; done) | (go_simp; rfl)); intro w4_ hw; have M1 : MK w0.heap.size w3_ w4_ := (by rw [hw]; exact MK.store HT.out (by unfold mkT; omega) GB.out (by have h_ := HE.out.2.2.2.2.1; (try unfold E4 at h_); simpa using h_) (NS.int _ _)); have HB1 : Below w0.heap.size w0 w4_ := (by rw [hw]; exact below_set HB.out GB.out); clear hw; clear hx4 hf4; have n0_ := Aside0.mk (HM.out.trans M1); have n1_ := Aside0.mk (M1.tb _ _ HT.out); have n2_ := Aside0.mk (E87.mk_ M1 HE.out); have n3_ := Aside0.mk HB1; clear HM HT HE HB M1 HB1; have HM := n0_; have HT := n1_; have HE := n2_; have HB := n3_; clear n0_ n1_ n2_ n3_; obtain ⟨ov5, hx5, _⟩ := HE.out.2.2.2.2.2; have hf5 : w4_.frozen? ⟨g, x5.toNat * 6 + 5, none⟩ = false := HT.out.frozen _) | ((with_reducible refine gate_store (t := 3) (p := 55) rfl ?_); refine store_event (t := 3) (p := 55) (v := ?vo5_) (w1 := (w4_.setCell ⟨g, x5.toNat * 6 + 5, none⟩ (.int .i64 (wrap64 (wrap64 (wrap64 (wrap64 (wrap64 (x1 + 1) + 1) + 1) + 1) + 1))))) ?hg ?ho ?hn ?hr ?_; (case ho => rfl); (case hg => rfl); (case hn => rfl); (case hr => first | (go_simp; done) | (go_simp; rfl)); intro w5_ hw; have M1 : MK w0.heap.size w4_ w5_ := (by rw [hw]; exact MK.store HT.out (by unfold mkT; omega) GB.out (by have h_ := HE.out.2.2.2.2.2; (try unfold E4 at h_); simpa using h_) (NS.int _ _)); have HB1 : Below w0.heap.size w0 w5_ := (by rw [hw]; exact below_set HB.out GB.out); clear hw; clear hx5 hf5; have n0_ := Aside0.mk (HM.out.trans M1); have n1_ := Aside0.mk (M1.tb _ _ HT.out); have n2_ := Aside0.mk (E87.mk_ M1 HE.out); have n3_ := Aside0.mk HB1; clear HM HT HE HB M1 HB1; have HM := n0_; have HT := n1_; have HE := n2_; have HB := n3_; clear n0_ n1_ n2_ n3_))
   go_roundg k1
   case measure => omega
   case rel =>
    refine ⟨wrap64 (wrap64 (wrap64 (wrap64 (wrap64 (wrap64 (x1 + 1) + 1) + 1) + 1) + 1) + 1), wrap64 (x5 + 1), (by first | rfl | (simp; done) | (simp [*]; done)), (by first | rfl | (simp; done) | (simp [*]; done)), ⟨?_, ?_, ?_⟩, ⟨(vW0 HB.out)⟩, ⟨HM.out.trans (MK.below _ (by repeat (first | (with_reducible first | exact Below.refl _ _ | apply below_alloc | apply pw_below_drewN | apply below_drew1) | exact Below.refl _ _)))⟩⟩
    ·rw [HW.out]; have := HI.out.1; omega
    ·rw [HW.out]; have := HI.out.2.1; omega
    ·have h0 := HI.out.1
     have e0 : (wrap64 (x5 + 1)).toNat = x5.toNat + 1 := by rw [HW.out]; omega
     have e1 := HI.out.2.2
     rw [HD.out, up_add] at e1
     rw [e0]
     refine Eq.trans (congrArg _ ?_) e1
     first
     | rfl
     | (symm; (try unfold c64); (try unfold c90); (try unfold c45); simp only [up_add]; rfl)
  ·have c3b0 : decide (x5 < (xs.length : Int)) = false := decide_eq_false c3
   have hz : xs.drop x5.toNat = [] := List.drop_eq_nil_of_le (by have := HI.out.1; omega)
   have e1 := HI.out.2.2
   rw [hz] at e1
   have HX := Aside0.mk (show x1 = _ from e1)
   clear e1 hz c3
   go_wp2
   go_ret
   exact ⟨by rw [← HX.out]; rfl, (vW0 HB.out), HM.out.trans (MK.below _ (by repeat (first | (with_reducible first | exact Below.refl _ _ | apply below_alloc | apply pw_below_drewN | apply below_drew1) | exact Below.refl _ _)))⟩
set_option maxHeartbeats 8000000 in
set_option maxRecDepth 100000 in
theorem laws_markTstTestS.mk (w0 w : World) (hB : Below w0.heap.size w0 w) (A : Option Addr) (c : Nat) (xs : List S90) (a1 : Int) (hr : Row w w0.heap.size 90 11 (E90 w0.heap.size) z90 A xs) (hn : tot c90 xs ≤ 4611686018427387904) :
  Calls Try.prog 30 #[.slice A xs.length c, .int .i64 a1] w fun e w' => e = .returned (.int .i64 (up (tot c90 xs) a1)) ∧ Below w0.heap.size w0 w' ∧ MK w0.heap.size w w' := by
 have hu90 := Try.underlying90
 have hu87 := Try.underlying87
 have hu85 := Try.underlying85
 have HL := Aside0.mk (Nat.le_trans (tot_one c90 (fun x => by first | exact Nat.le_refl _ | (show 1 ≤ _; first | decide | (try unfold c64); (try unfold c90); (try unfold c45); omega)) xs) hn)
 have HN := Aside0.mk hn
 have HB := Aside0.mk hB
 have HR := Aside0.mk hr
 clear hB hr hn
 go_enter Try.func30, Try.ntmps30
 go_wp2
 go_loopg [1, 5] xs.length (fun kq v1 v5 w' => ∃ (x1 x5 : Int), v1 = .int .i64 x1 ∧ v5 = .int .i64 x5 ∧ Aside0 (0 ≤ x5 ∧ x5 + (kq : Int) = (xs.length : Int) ∧ up (tot c90 (xs.drop x5.toNat)) x1 = up (tot c90 xs) a1) ∧ Aside0 (Below w0.heap.size w0 w') ∧ Aside0 (MK w0.heap.size w w'))
 case atStart => exact ⟨a1, 0, (by first | rfl | (simp; done)), (by first | rfl | (simp; done)), ⟨Int.le_refl _, by omega, rfl⟩, ⟨(vW0 HB.out)⟩, ⟨MK.below _ (by repeat (first | (with_reducible first | exact Below.refl _ _ | apply below_alloc | apply pw_below_drewN | apply below_drew1) | exact Below.refl _ _))⟩⟩
 case round =>
  clear HB
  obtain ⟨x1, x5, rfl, rfl, HI, HB, HM⟩ := hrel
  by_cases c3 : x5 < (xs.length : Int)
  ·have c3b0 : decide (x5 < (xs.length : Int)) = true := decide_eq_true c3
   obtain ⟨k1, rfl⟩ : ∃ k1, gk = k1 + 1 := ⟨gk - 1, by have := HI.out.2.1; omega⟩
   have p5 := HI.out.1
   have hwn := wrap_next p5 c3 HL.out
   obtain ⟨g, rfl, hgB, hT, hE⟩ := (HR.out.mk_ HM.out (fun _ _ _ hx => E90.mk_ HM.out hx)).at_ x5 p5 c3
   have htot := tot_get c90 z90 xs x5.toNat (by omega)
   have hdrop := tot_drop c90 z90 xs x5.toNat (by omega)
   generalize hel : xs.getD x5.toNat z90 = el at hE htot hdrop
   clear hel
   have HT := Aside0.mk hT
   have HE := Aside0.mk hE
   have GB := Aside0.mk hgB
   have HQ := Aside0.mk htot
   have HD := Aside0.mk hdrop
   have HW := Aside0.mk hwn
   clear hT hE hgB htot hdrop hwn
   replace p5 := eq_true p5
   replace c3 := eq_true c3
   obtain ⟨ov0, hx0, _⟩ := HE.out.1
   have hf0 : wr.frozen? ⟨g, x5.toNat * 11, none⟩ = false := HT.out.frozen _
   go_wp2_with (first | ((with_reducible refine gate_store (t := 3) (p := 17) rfl ?_); refine store_event (t := 3) (p := 17) (v := ?vo0_) (w1 := (wr.setCell ⟨g, x5.toNat * 11, none⟩ (.int .i64 (x1)))) ?hg ?ho ?hn ?hr ?_; (case ho => rfl); (case hg => rfl); (case hn => rfl); (case hr => first | (go_simp; done) | (go_simp; rfl)); intro w0_ hw; have M1 : MK w0.heap.size wr w0_ := (by rw [hw]; exact MK.store HT.out (by unfold mkT; omega) GB.out (by have h_ := HE.out.1; (try unfold E4 at h_); simpa using h_) (NS.int _ _)); have HB1 : Below w0.heap.size w0 w0_ := (by rw [hw]; exact below_set HB.out GB.out); clear hw; clear hx0 hf0; have n0_ := Aside0.mk (HM.out.trans M1); have n1_ := Aside0.mk (M1.tb _ _ HT.out); have n2_ := Aside0.mk (E90.mk_ M1 HE.out); have n3_ := Aside0.mk HB1; clear HM HT HE HB M1 HB1; have HM := n0_; have HT := n1_; have HE := n2_; have HB := n3_; clear n0_ n1_ n2_ n3_; obtain ⟨ov1, hx1, _⟩ := HE.out.2.1; have hf1 : w0_.frozen? ⟨g, x5.toNat * 11 + 1, none⟩ = false := HT.out.frozen _) | ((with_reducible refine gate_store (t := 3) (p := 26) rfl ?_); refine store_event (t := 3) (p := 26) (v := ?vo1_) (w1 := (w0_.setCell ⟨g, x5.toNat * 11 + 1, none⟩ (.int .i64 (wrap64 (x1 + 1))))) ?hg ?ho ?hn ?hr ?_; (case ho => rfl); (case hg => rfl); (case hn => rfl); (case hr => first | (go_simp; done) | (go_simp; rfl)); intro w1_ hw; have M1 : MK w0.heap.size w0_ w1_ := (by rw [hw]; exact MK.store HT.out (by unfold mkT; omega) GB.out (by have h_ := HE.out.2.1; (try unfold E4 at h_); simpa using h_) (NS.int _ _)); have HB1 : Below w0.heap.size w0 w1_ := (by rw [hw]; exact below_set HB.out GB.out); clear hw; clear hx1 hf1; have n0_ := Aside0.mk (HM.out.trans M1); have n1_ := Aside0.mk (M1.tb _ _ HT.out); have n2_ := Aside0.mk (E90.mk_ M1 HE.out); have n3_ := Aside0.mk HB1; clear HM HT HE HB M1 HB1; have HM := n0_; have HT := n1_; have HE := n2_; have HB := n3_; clear n0_ n1_ n2_ n3_; obtain ⟨ov2, hx2, _⟩ := HE.out.2.2.1; have hf2 : w1_.frozen? ⟨g, x5.toNat * 11 + 2, none⟩ = false := HT.out.frozen _) | ((with_reducible refine gate_store (t := 3) (p := 35) rfl ?_); refine store_event (t := 3) (p := 35) (v := ?vo2_) (w1 := (w1_.setCell ⟨g, x5.toNat * 11 + 2, none⟩ (.int .i64 (wrap64 (wrap64 (x1 + 1) + 1))))) ?hg ?ho ?hn ?hr ?_; (case ho => rfl); (case hg => rfl); (case hn => rfl); (case hr => first | (go_simp; done) | (go_simp; rfl)); intro w2_ hw; have M1 : MK w0.heap.size w1_ w2_ := (by rw [hw]; exact MK.store HT.out (by unfold mkT; omega) GB.out (by have h_ := HE.out.2.2.1; (try unfold E4 at h_); simpa using h_) (NS.int _ _)); have HB1 : Below w0.heap.size w0 w2_ := (by rw [hw]; exact below_set HB.out GB.out); clear hw; clear hx2 hf2; have n0_ := Aside0.mk (HM.out.trans M1); have n1_ := Aside0.mk (M1.tb _ _ HT.out); have n2_ := Aside0.mk (E90.mk_ M1 HE.out); have n3_ := Aside0.mk HB1; clear HM HT HE HB M1 HB1; have HM := n0_; have HT := n1_; have HE := n2_; have HB := n3_; clear n0_ n1_ n2_ n3_; obtain ⟨ov3, hx3, _⟩ := HE.out.2.2.2.1; have hf3 : w2_.frozen? ⟨g, x5.toNat * 11 + 3, none⟩ = false := HT.out.frozen _) | ((with_reducible refine gate_store (t := 3) (p := 44) rfl ?_); refine store_event (t := 3) (p := 44) (v := ?vo3_) (w1 := (w2_.setCell ⟨g, x5.toNat * 11 + 3, none⟩ (.int .i64 (wrap64 (wrap64 (wrap64 (x1 + 1) + 1) + 1))))) ?hg ?ho ?hn ?hr ?_; (case ho => rfl); (case hg => rfl); (case hn => rfl); (case hr => first | (go_simp; done) | (go_simp; rfl)); intro w3_ hw; have M1 : MK w0.heap.size w2_ w3_ := (by rw [hw]; exact MK.store HT.out (by unfold mkT; omega) GB.out (by have h_ := HE.out.2.2.2.1; (try unfold E4 at h_); simpa using h_) (NS.int _ _)); have HB1 : Below w0.heap.size w0 w3_ := (by rw [hw]; exact below_set HB.out GB.out); clear hw; clear hx3 hf3; have n0_ := Aside0.mk (HM.out.trans M1); have n1_ := Aside0.mk (M1.tb _ _ HT.out); have n2_ := Aside0.mk (E90.mk_ M1 HE.out); have n3_ := Aside0.mk HB1; clear HM HT HE HB M1 HB1; have HM := n0_; have HT := n1_; have HE := n2_; have HB := n3_; clear n0_ n1_ n2_ n3_; obtain ⟨ov4, hx4, _⟩ := HE.out.2.2.2.2.1; have hf4 : w3_.frozen? ⟨g, x5.toNat * 11 + 4, none⟩ = false := HT.out.frozen _) | ((with_reducible refine gate_store (t := 3) (p := 53) rfl ?_); refine store_event (t := 3) (p := 53) (v := ?vo4_) (w1 := (w3_.setCell ⟨g, x5.toNat * 11 + 4, none⟩ (.int .i64 (wrap64 (wrap64 (wrap64 (wrap64 (x1 + 1) + 1) + 1) + 1))))) ?hg ?ho ?hn ?hr ?_; (case ho => rfl); (case hg => rfl); (case hn => rfl); (case hr => first | (go_simp; done) | (go_simp; rfl)); intro w4_ hw; have M1 : MK w0.heap.size w3_ w4_ := (by rw [hw]; exact MK.store HT.out (by unfold mkT; omega) GB.out (by have h_ := HE.out.2.2.2.2.1; (try unfold E4 at h_); simpa using h_) (NS.int _ _)); have HB1 : Below w0.heap.size w0 w4_ := (by rw [hw]; exact below_set HB.out GB.out); clear hw; clear hx4 hf4; have n0_ := Aside0.mk (HM.out.trans M1); have n1_ := Aside0.mk (M1.tb _ _ HT.out); have n2_ := Aside0.mk (E90.mk_ M1 HE.out); have n3_ := Aside0.mk HB1; clear HM HT HE HB M1 HB1; have HM := n0_; have HT := n1_; have HE := n2_; have HB := n3_; clear n0_ n1_ n2_ n3_; obtain ⟨ov5, hx5, _⟩ := HE.out.2.2.2.2.2.1; have hf5 : w4_.frozen? ⟨g, x5.toNat * 11 + 5, none⟩ = false := HT.out.frozen _) | ((with_reducible refine gate_store (t := 3) (p := 61) rfl ?_); refine store_event (t := 3) (p := 61) (v := ?vo5_) (w1 := (w4_.setCell ⟨g, x5.toNat * 11 + 5, none⟩ (.int .i64 (wrap64 (wrap64 (wrap64 (wrap64 (wrap64 (x1 + 1) + 1) + 1) + 1) + 1))))) ?hg ?ho ?hn ?hr ?_; (case ho => rfl); (case hg => rfl); (case hn => rfl); (case hr => first | (go_simp; done) | (go_simp; rfl)); intro w5_ hw; have M1 : MK w0.heap.size w4_ w5_ := (by rw [hw]; exact MK.store HT.out (by unfold mkT; omega) GB.out (by have h_ := HE.out.2.2.2.2.2.1; (try unfold E4 at h_); simpa using h_) (NS.int _ _)); have HB1 : Below w0.heap.size w0 w5_ := (by rw [hw]; exact below_set HB.out GB.out); clear hw; clear hx5 hf5; have n0_ := Aside0.mk (HM.out.trans M1); have n1_ := Aside0.mk (M1.tb _ _ HT.out); have n2_ := Aside0.mk (E90.mk_ M1 HE.out); have n3_ := Aside0.mk HB1; clear HM HT HE HB M1 HB1; have HM := n0_; have HT := n1_; have HE := n2_; have HB := n3_; clear n0_ n1_ n2_ n3_; obtain ⟨ov6, hx6, _⟩ := HE.out.2.2.2.2.2.2.1; have hf6 : w5_.frozen? ⟨g, x5.toNat * 11 + 6, none⟩ = false := HT.out.frozen _) | ((with_reducible refine gate_store (t := 3) (p := 68) rfl ?_); refine store_event (t := 3) (p := 68) (v := ?vo6_) (w1 := (w5_.setCell ⟨g, x5.toNat * 11 + 6, none⟩ (.int .i64 (wrap64 (wrap64 (wrap64 (wrap64 (wrap64 (wrap64 (x1 + 1) + 1) + 1) + 1) + 1) + 1))))) ?hg ?ho ?hn ?hr ?_; (case ho => rfl); (case hg => rfl); (case hn => rfl); (case hr => first | (go_simp; done) | (go_simp; rfl)); intro w6_ hw; have M1 : MK w0.heap.size w5_ w6_ := (by rw [hw]; exact MK.store HT.out (by unfold mkT; omega) GB.out (by have h_ := HE.out.2.2.2.2.2.2.1; (try unfold E4 at h_); simpa using h_) (NS.int _ _)); have HB1 : Below w0.heap.size w0 w6_ := (by rw [hw]; exact below_set HB.out GB.out); clear hw; clear hx6 hf6; have n0_ := Aside0.mk (HM.out.trans M1); have n1_ := Aside0.mk (M1.tb _ _ HT.out); have n2_ := Aside0.mk (E90.mk_ M1 HE.out); have n3_ := Aside0.mk HB1; clear HM HT HE HB M1 HB1; have HM := n0_; have HT := n1_; have HE := n2_; have HB := n3_; clear n0_ n1_ n2_ n3_; obtain ⟨ov7, hx7, _⟩ := HE.out.2.2.2.2.2.2.2.1; have hf7 : w6_.frozen? ⟨g, x5.toNat * 11 + 7, none⟩ = false := HT.out.frozen _) | ((with_reducible refine gate_store (t := 3) (p := 76) rfl ?_); refine store_event (t := 3) (p := 76) (v := ?vo7_) (w1 := (w6_.setCell ⟨g, x5.toNat * 11 + 7, none⟩ (.int .i64 (wrap64 (wrap64 (wrap64 (wrap64 (wrap64 (wrap64 (wrap64 (x1 + 1) + 1) + 1) + 1) + 1) + 1) + 1))))) ?hg ?ho ?hn ?hr ?_; (case ho => rfl); (case hg => rfl); (case hn => rfl); (case hr => first | (go_simp; done) | (go_simp; rfl)); intro w7_ hw; have M1 : MK w0.heap.size w6_ w7_ := (by rw [hw]; exact MK.store HT.out (by unfold mkT; omega) GB.out (by have h_ := HE.out.2.2.2.2.2.2.2.1; (try unfold E4 at h_); simpa using h_) (NS.int _ _)); have HB1 : Below w0.heap.size w0 w7_ := (by rw [hw]; exact below_set HB.out GB.out); clear hw; clear hx7 hf7; have n0_ := Aside0.mk (HM.out.trans M1); have n1_ := Aside0.mk (M1.tb _ _ HT.out); have n2_ := Aside0.mk (E90.mk_ M1 HE.out); have n3_ := Aside0.mk HB1; clear HM HT HE HB M1 HB1; have HM := n0_; have HT := n1_; have HE := n2_; have HB := n3_; clear n0_ n1_ n2_ n3_; obtain ⟨ov8, hx8, _⟩ := HE.out.2.2.2.2.2.2.2.2.1; have hf8 : w7_.frozen? ⟨g, x5.toNat * 11 + 8, none⟩ = false := HT.out.frozen _) | ((with_reducible refine gate_store (t := 3) (p := 84) rfl ?_); refine store_event (t := 3) (p := 84) (v := ?vo8_) (w1 := (w7_.setCell ⟨g, x5.toNat * 11 + 8, none⟩ (.int .i64 (wrap64 (wrap64 (wrap64 (wrap64 (wrap64 (wrap64 (wrap64 (wrap64 (x1 + 1) + 1) + 1) + 1) + 1) + 1) + 1) + 1))))) ?hg ?ho ?hn ?hr ?_; (case ho => rfl); (case hg => rfl); (case hn => rfl); (case hr => first | (go_simp; done) | (go_simp; rfl)); intro w8_ hw; have M1 : MK w0.heap.size w7_ w8_ := (by rw [hw]; exact MK.store HT.out (by unfold mkT; omega) GB.out (by have h_ := HE.out.2.2.2.2.2.2.2.2.1; (try unfold E4 at h_); simpa using h_) (NS.int _ _)); have HB1 : Below w0.heap.size w0 w8_ := (by rw [hw]; exact below_set HB.out GB.out); clear hw; clear hx8 hf8; have n0_ := Aside0.mk (HM.out.trans M1); have n1_ := Aside0.mk (M1.tb _ _ HT.out); have n2_ := Aside0.mk (E90.mk_ M1 HE.out); have n3_ := Aside0.mk HB1; clear HM HT HE HB M1 HB1; have HM := n0_; have HT := n1_; have HE := n2_; have HB := n3_; clear n0_ n1_ n2_ n3_; obtain ⟨ov9, hx9, _⟩ := HE.out.2.2.2.2.2.2.2.2.2.1; have hf9 : w8_.frozen? ⟨g, x5.toNat * 11 + 9, none⟩ = false := HT.out.frozen _) | ((with_reducible refine gate_store (t := 3) (p := 91) rfl ?_); refine store_event (t := 3) (p := 91) (v := ?vo9_) (w1 := (w8_.setCell ⟨g, x5.toNat * 11 + 9, none⟩ (.int .i64 (wrap64 (wrap64 (wrap64 (wrap64 (wrap64 (wrap64 (wrap64 (wrap64 (wrap64 (x1 + 1) + 1) + 1) + 1) + 1) + 1) + 1) + 1) + 1))))) ?hg ?ho ?hn ?hr ?_; (case ho => rfl); (case hg => rfl); (case hn => rfl); (case hr => first | (go_simp; done) | (go_simp; rfl)); intro w9_ hw; have M1 : MK w0.heap.size w8_ w9_ := (by rw [hw]; exact MK.store HT.out (by unfold mkT; omega) GB.out (by have h_ := HE.out.2.2.2.2.2.2.2.2.2.1; (try unfold E4 at h_); simpa using h_) (NS.int _ _)); have HB1 : Below w0.heap.size w0 w9_ := (by rw [hw]; exact below_set HB.out GB.out); clear hw; clear hx9 hf9; have n0_ := Aside0.mk (HM.out.trans M1); have n1_ := Aside0.mk (M1.tb _ _ HT.out); have n2_ := Aside0.mk (E90.mk_ M1 HE.out); have n3_ := Aside0.mk HB1; clear HM HT HE HB M1 HB1; have HM := n0_; have HT := n1_; have HE := n2_; have HB := n3_; clear n0_ n1_ n2_ n3_; obtain ⟨A10, c10, hx10, hi10⟩ := HE.out.2.2.2.2.2.2.2.2.2.2; have HI10 := Aside0.mk hi10; clear hi10) | (go_at_call 45; refine (laws_markDecDecS.mk w0 _ (vW0 HB.out) A10 c10 el.f4 (wrap64 (wrap64 (wrap64 (wrap64 (wrap64 (wrap64 (wrap64 (wrap64 (wrap64 (wrap64 (x1 + 1) + 1) + 1) + 1) + 1) + 1) + 1) + 1) + 1) + 1)) (HI10.out.mk_ (MK.below w0.heap.size (by repeat (first | (with_reducible first | exact Below.refl _ _ | apply below_alloc | apply pw_below_drewN | apply below_drew1) | exact Below.refl _ _))) (fun _ _ _ hx => E85.mk_ (MK.below w0.heap.size (by repeat (first | (with_reducible first | exact Below.refl _ _ | apply below_alloc | apply pw_below_drewN | apply below_drew1) | exact Below.refl _ _))) hx)) (by have h1_ := HN.out; have h2_ := HQ.out; have h3_ := c90_eq el; omega)).mono ?_; rintro e w10_ ⟨rfl, HB1, M0⟩; have M1 := (MK.below w0.heap.size ((by repeat (first | (with_reducible first | exact Below.refl _ _ | apply below_alloc | apply pw_below_drewN | apply below_drew1) | exact Below.refl _ _)) : Below w9_.heap.size w9_ _)).trans M0; clear M0 hx10 HI10; have n0_ := Aside0.mk (HM.out.trans M1); have n1_ := Aside0.mk (M1.tb _ _ HT.out); have n2_ := Aside0.mk (E90.mk_ M1 HE.out); have n3_ := Aside0.mk HB1; clear HM HT HE HB M1 HB1; have HM := n0_; have HT := n1_; have HE := n2_; have HB := n3_; clear n0_ n1_ n2_ n3_))
   go_roundg k1
   case measure => omega
   case rel =>
    refine ⟨up (tot (fun _ => 2) el.f4) (wrap64 (wrap64 (wrap64 (wrap64 (wrap64 (wrap64 (wrap64 (wrap64 (wrap64 (wrap64 (x1 + 1) + 1) + 1) + 1) + 1) + 1) + 1) + 1) + 1) + 1)), wrap64 (x5 + 1), (by first | rfl | (simp; done) | (simp [*]; done)), (by first | rfl | (simp; done) | (simp [*]; done)), ⟨?_, ?_, ?_⟩, ⟨(vW0 HB.out)⟩, ⟨HM.out.trans (MK.below _ (by repeat (first | (with_reducible first | exact Below.refl _ _ | apply below_alloc | apply pw_below_drewN | apply below_drew1) | exact Below.refl _ _)))⟩⟩
    ·rw [HW.out]; have := HI.out.1; omega
    ·rw [HW.out]; have := HI.out.2.1; omega
    ·have h0 := HI.out.1
     have e0 : (wrap64 (x5 + 1)).toNat = x5.toNat + 1 := by rw [HW.out]; omega
     have e1 := HI.out.2.2
     rw [HD.out, up_add] at e1
     rw [e0]
     refine Eq.trans (congrArg _ ?_) e1
     first
     | rfl
     | (symm; (try unfold c64); (try unfold c90); (try unfold c45); simp only [up_add]; rfl)
  ·have c3b0 : decide (x5 < (xs.length : Int)) = false := decide_eq_false c3
   have hz : xs.drop x5.toNat = [] := List.drop_eq_nil_of_le (by have := HI.out.1; omega)
   have e1 := HI.out.2.2
   rw [hz] at e1
   have HX := Aside0.mk (show x1 = _ from e1)
   clear e1 hz c3
   go_wp2
   go_ret
   exact ⟨by rw [← HX.out]; rfl, (vW0 HB.out), HM.out.trans (MK.below _ (by repeat (first | (with_reducible first | exact Below.refl _ _ | apply below_alloc | apply pw_below_drewN | apply below_drew1) | exact Below.refl _ _)))⟩
set_option maxHeartbeats 8000000 in
set_option maxRecDepth 100000 in
theorem laws_markSpcSpecS.mk (w0 w : World) (hB : Below w0.heap.size w0 w) (A : Option Addr) (c : Nat) (xs : List S64) (a1 : Int) (hr : Row w w0.heap.size 64 2 (E64 w0.heap.size) z64 A xs) (hn : tot c64 xs ≤ 4611686018427387904) :
  Calls Try.prog 21 #[.slice A xs.length c, .int .i64 a1] w fun e w' => e = .returned (.int .i64 (up (tot c64 xs) a1)) ∧ Below w0.heap.size w0 w' ∧ MK w0.heap.size w w' := by
 have hu64 := Try.underlying64
 have HL := Aside0.mk (Nat.le_trans (tot_one c64 (fun x => by first | exact Nat.le_refl _ | (show 1 ≤ _; first | decide | (try unfold c64); (try unfold c90); (try unfold c45); omega)) xs) hn)
 have HN := Aside0.mk hn
 have HB := Aside0.mk hB
 have HR := Aside0.mk hr
 clear hB hr hn
 go_enter Try.func21, Try.ntmps21
 go_wp2
 go_loopg [1, 5] xs.length (fun kq v1 v5 w' => ∃ (x1 x5 : Int), v1 = .int .i64 x1 ∧ v5 = .int .i64 x5 ∧ Aside0 (0 ≤ x5 ∧ x5 + (kq : Int) = (xs.length : Int) ∧ up (tot c64 (xs.drop x5.toNat)) x1 = up (tot c64 xs) a1) ∧ Aside0 (Below w0.heap.size w0 w') ∧ Aside0 (MK w0.heap.size w w'))
 case atStart => exact ⟨a1, 0, (by first | rfl | (simp; done)), (by first | rfl | (simp; done)), ⟨Int.le_refl _, by omega, rfl⟩, ⟨(vW0 HB.out)⟩, ⟨MK.below _ (by repeat (first | (with_reducible first | exact Below.refl _ _ | apply below_alloc | apply pw_below_drewN | apply below_drew1) | exact Below.refl _ _))⟩⟩
 case round =>
  clear HB
  obtain ⟨x1, x5, rfl, rfl, HI, HB, HM⟩ := hrel
  by_cases c3 : x5 < (xs.length : Int)
  ·have c3b0 : decide (x5 < (xs.length : Int)) = true := decide_eq_true c3
   obtain ⟨k1, rfl⟩ : ∃ k1, gk = k1 + 1 := ⟨gk - 1, by have := HI.out.2.1; omega⟩
   have p5 := HI.out.1
   have hwn := wrap_next p5 c3 HL.out
   obtain ⟨g, rfl, hgB, hT, hE⟩ := (HR.out.mk_ HM.out (fun _ _ _ hx => E64.mk_ HM.out hx)).at_ x5 p5 c3
   have htot := tot_get c64 z64 xs x5.toNat (by omega)
   have hdrop := tot_drop c64 z64 xs x5.toNat (by omega)
   generalize hel : xs.getD x5.toNat z64 = el at hE htot hdrop
   clear hel
   have HT := Aside0.mk hT
   have HE := Aside0.mk hE
   have GB := Aside0.mk hgB
   have HQ := Aside0.mk htot
   have HD := Aside0.mk hdrop
   have HW := Aside0.mk hwn
   clear hT hE hgB htot hdrop hwn
   replace p5 := eq_true p5
   replace c3 := eq_true c3
   obtain ⟨A0, c0, hx0, hi0⟩ := HE.out.1
   have HI0 := Aside0.mk hi0
   clear hi0
   go_wp2_with (first | (go_at_call 29; refine (laws_markSpcTestS.mk w0 _ (vW0 HB.out) A0 c0 el.f0 (x1) (HI0.out.mk_ (MK.below w0.heap.size (by repeat (first | (with_reducible first | exact Below.refl _ _ | apply below_alloc | apply pw_below_drewN | apply below_drew1) | exact Below.refl _ _))) (fun _ _ _ hx => E87.mk_ (MK.below w0.heap.size (by repeat (first | (with_reducible first | exact Below.refl _ _ | apply below_alloc | apply pw_below_drewN | apply below_drew1) | exact Below.refl _ _))) hx)) (by have h1_ := HN.out; have h2_ := HQ.out; have h3_ := c64_eq el; omega)).mono ?_; rintro e w0_ ⟨rfl, HB1, M0⟩; have M1 := (MK.below w0.heap.size ((by repeat (first | (with_reducible first | exact Below.refl _ _ | apply below_alloc | apply pw_below_drewN | apply below_drew1) | exact Below.refl _ _)) : Below wr.heap.size wr _)).trans M0; clear M0 hx0 HI0; have n0_ := Aside0.mk (HM.out.trans M1); have n1_ := Aside0.mk (M1.tb _ _ HT.out); have n2_ := Aside0.mk (E64.mk_ M1 HE.out); have n3_ := Aside0.mk HB1; clear HM HT HE HB M1 HB1; have HM := n0_; have HT := n1_; have HE := n2_; have HB := n3_; clear n0_ n1_ n2_ n3_; obtain ⟨ov1, hx1, _⟩ := HE.out.2; have hf1 : w0_.frozen? ⟨g, x5.toNat * 2 + 1, none⟩ = false := HT.out.frozen _) | ((with_reducible refine gate_store (t := 3) (p := 23) rfl ?_); refine store_event (t := 3) (p := 23) (v := ?vo1_) (w1 := (w0_.setCell ⟨g, x5.toNat * 2 + 1, none⟩ (.int .i64 (up (tot (fun _ => 6) el.f0) (x1))))) ?hg ?ho ?hn ?hr ?_; (case ho => rfl); (case hg => rfl); (case hn => rfl); (case hr => first | (go_simp; done) | (go_simp; rfl)); intro w1_ hw; have M1 : MK w0.heap.size w0_ w1_ := (by rw [hw]; exact MK.store HT.out (by unfold mkT; omega) GB.out (by have h_ := HE.out.2; (try unfold E4 at h_); simpa using h_) (NS.int _ _)); have HB1 : Below w0.heap.size w0 w1_ := (by rw [hw]; exact below_set HB.out GB.out); clear hw; clear hx1 hf1; have n0_ := Aside0.mk (HM.out.trans M1); have n1_ := Aside0.mk (M1.tb _ _ HT.out); have n2_ := Aside0.mk (E64.mk_ M1 HE.out); have n3_ := Aside0.mk HB1; clear HM HT HE HB M1 HB1; have HM := n0_; have HT := n1_; have HE := n2_; have HB := n3_; clear n0_ n1_ n2_ n3_))
   go_roundg k1
   case measure => omega
   case rel =>
    refine ⟨wrap64 (up (tot (fun _ => 6) el.f0) (x1) + 1), wrap64 (x5 + 1), (by first | rfl | (simp; done) | (simp [*]; done)), (by first | rfl | (simp; done) | (simp [*]; done)), ⟨?_, ?_, ?_⟩, ⟨(vW0 HB.out)⟩, ⟨HM.out.trans (MK.below _ (by repeat (first | (with_reducible first | exact Below.refl _ _ | apply below_alloc | apply pw_below_drewN | apply below_drew1) | exact Below.refl _ _)))⟩⟩
    ·rw [HW.out]; have := HI.out.1; omega
    ·rw [HW.out]; have := HI.out.2.1; omega
    ·have h0 := HI.out.1
     have e0 : (wrap64 (x5 + 1)).toNat = x5.toNat + 1 := by rw [HW.out]; omega
     have e1 := HI.out.2.2
     rw [HD.out, up_add] at e1
     rw [e0]
     refine Eq.trans (congrArg _ ?_) e1
     first
     | rfl
     | (symm; (try unfold c64); (try unfold c90); (try unfold c45); simp only [up_add]; rfl)
  ·have c3b0 : decide (x5 < (xs.length : Int)) = false := decide_eq_false c3
   have hz : xs.drop x5.toNat = [] := List.drop_eq_nil_of_le (by have := HI.out.1; omega)
   have e1 := HI.out.2.2
   rw [hz] at e1
   have HX := Aside0.mk (show x1 = _ from e1)
   clear e1 hz c3
   go_wp2
   go_ret
   exact ⟨by rw [← HX.out]; rfl, (vW0 HB.out), HM.out.trans (MK.below _ (by repeat (first | (with_reducible first | exact Below.refl _ _ | apply below_alloc | apply pw_below_drewN | apply below_drew1) | exact Below.refl _ _)))⟩
set_option maxHeartbeats 8000000 in
set_option maxRecDepth 100000 in
theorem laws_markBatBatchS.mk (w0 w : World) (hB : Below w0.heap.size w0 w) (A : Option Addr) (c : Nat) (xs : List S45) (a1 : Int) (hr : Row w w0.heap.size 45 6 (E45 w0.heap.size) z45 A xs) (hn : tot c45 xs ≤ 4611686018427387904) :
  Calls Try.prog 22 #[.slice A xs.length c, .int .i64 a1] w fun e w' => e = .returned (.int .i64 (up (tot c45 xs) a1)) ∧ Below w0.heap.size w0 w' ∧ MK w0.heap.size w w' := by
 have hu45 := Try.underlying45
 have HL := Aside0.mk (Nat.le_trans (tot_one c45 (fun x => by first | exact Nat.le_refl _ | (show 1 ≤ _; first | decide | (try unfold c64); (try unfold c90); (try unfold c45); omega)) xs) hn)
 have HN := Aside0.mk hn
 have HB := Aside0.mk hB
 have HR := Aside0.mk hr
 clear hB hr hn
 go_enter Try.func22, Try.ntmps22
 go_wp2
 go_loopg [1, 5] xs.length (fun kq v1 v5 w' => ∃ (x1 x5 : Int), v1 = .int .i64 x1 ∧ v5 = .int .i64 x5 ∧ Aside0 (0 ≤ x5 ∧ x5 + (kq : Int) = (xs.length : Int) ∧ up (tot c45 (xs.drop x5.toNat)) x1 = up (tot c45 xs) a1) ∧ Aside0 (Below w0.heap.size w0 w') ∧ Aside0 (MK w0.heap.size w w'))
 case atStart => exact ⟨a1, 0, (by first | rfl | (simp; done)), (by first | rfl | (simp; done)), ⟨Int.le_refl _, by omega, rfl⟩, ⟨(vW0 HB.out)⟩, ⟨MK.below _ (by repeat (first | (with_reducible first | exact Below.refl _ _ | apply below_alloc | apply pw_below_drewN | apply below_drew1) | exact Below.refl _ _))⟩⟩
 case round =>
  clear HB
  obtain ⟨x1, x5, rfl, rfl, HI, HB, HM⟩ := hrel
  by_cases c3 : x5 < (xs.length : Int)
  ·have c3b0 : decide (x5 < (xs.length : Int)) = true := decide_eq_true c3
   obtain ⟨k1, rfl⟩ : ∃ k1, gk = k1 + 1 := ⟨gk - 1, by have := HI.out.2.1; omega⟩
   have p5 := HI.out.1
   have hwn := wrap_next p5 c3 HL.out
   obtain ⟨g, rfl, hgB, hT, hE⟩ := (HR.out.mk_ HM.out (fun _ _ _ hx => E45.mk_ HM.out hx)).at_ x5 p5 c3
   have htot := tot_get c45 z45 xs x5.toNat (by omega)
   have hdrop := tot_drop c45 z45 xs x5.toNat (by omega)
   generalize hel : xs.getD x5.toNat z45 = el at hE htot hdrop
   clear hel
   have HT := Aside0.mk hT
   have HE := Aside0.mk hE
   have GB := Aside0.mk hgB
   have HQ := Aside0.mk htot
   have HD := Aside0.mk hdrop
   have HW := Aside0.mk hwn
   clear hT hE hgB htot hdrop hwn
   replace p5 := eq_true p5
   replace c3 := eq_true c3
   obtain ⟨ov0, hx0, _⟩ := HE.out.1
   have hf0 : wr.frozen? ⟨g, x5.toNat * 6, none⟩ = false := HT.out.frozen _
   go_wp2_with (first | ((with_reducible refine gate_store (t := 3) (p := 16) rfl ?_); refine store_event (t := 3) (p := 16) (v := ?vo0_) (w1 := (wr.setCell ⟨g, x5.toNat * 6, none⟩ (.int .i64 (x1)))) ?hg ?ho ?hn ?hr ?_; (case ho => rfl); (case hg => rfl); (case hn => rfl); (case hr => first | (go_simp; done) | (go_simp; rfl)); intro w0_ hw; have M1 : MK w0.heap.size wr w0_ := (by rw [hw]; exact MK.store HT.out (by unfold mkT; omega) GB.out (by have h_ := HE.out.1; (try unfold E4 at h_); simpa using h_) (NS.int _ _)); have HB1 : Below w0.heap.size w0 w0_ := (by rw [hw]; exact below_set HB.out GB.out); clear hw; clear hx0 hf0; have n0_ := Aside0.mk (HM.out.trans M1); have n1_ := Aside0.mk (M1.tb _ _ HT.out); have n2_ := Aside0.mk (E45.mk_ M1 HE.out); have n3_ := Aside0.mk HB1; clear HM HT HE HB M1 HB1; have HM := n0_; have HT := n1_; have HE := n2_; have HB := n3_; clear n0_ n1_ n2_ n3_; obtain ⟨ov1, hx1, _⟩ := HE.out.2.1; have hf1 : w0_.frozen? ⟨g, x5.toNat * 6 + 1, none⟩ = false := HT.out.frozen _) | ((with_reducible refine gate_store (t := 3) (p := 23) rfl ?_); refine store_event (t := 3) (p := 23) (v := ?vo1_) (w1 := (w0_.setCell ⟨g, x5.toNat * 6 + 1, none⟩ (.int .i64 (wrap64 (x1 + 1))))) ?hg ?ho ?hn ?hr ?_; (case ho => rfl); (case hg => rfl); (case hn => rfl); (case hr => first | (go_simp; done) | (go_simp; rfl)); intro w1_ hw; have M1 : MK w0.heap.size w0_ w1_ := (by rw [hw]; exact MK.store HT.out (by unfold mkT; omega) GB.out (by have h_ := HE.out.2.1; (try unfold E4 at h_); simpa using h_) (NS.int _ _)); have HB1 : Below w0.heap.size w0 w1_ := (by rw [hw]; exact below_set HB.out GB.out); clear hw; clear hx1 hf1; have n0_ := Aside0.mk (HM.out.trans M1); have n1_ := Aside0.mk (M1.tb _ _ HT.out); have n2_ := Aside0.mk (E45.mk_ M1 HE.out); have n3_ := Aside0.mk HB1; clear HM HT HE HB M1 HB1; have HM := n0_; have HT := n1_; have HE := n2_; have HB := n3_; clear n0_ n1_ n2_ n3_; obtain ⟨A2, c2, hx2, hi2⟩ := HE.out.2.2.1; have HI2 := Aside0.mk hi2; clear hi2) | (go_at_call 30; refine (laws_markTstTestS.mk w0 _ (vW0 HB.out) A2 c2 el.f2 (wrap64 (wrap64 (x1 + 1) + 1)) (HI2.out.mk_ (MK.below w0.heap.size (by repeat (first | (with_reducible first | exact Below.refl _ _ | apply below_alloc | apply pw_below_drewN | apply below_drew1) | exact Below.refl _ _))) (fun _ _ _ hx => E90.mk_ (MK.below w0.heap.size (by repeat (first | (with_reducible first | exact Below.refl _ _ | apply below_alloc | apply pw_below_drewN | apply below_drew1) | exact Below.refl _ _))) hx)) (by have h1_ := HN.out; have h2_ := HQ.out; have h3_ := c45_eq el; omega)).mono ?_; rintro e w2_ ⟨rfl, HB1, M0⟩; have M1 := (MK.below w0.heap.size ((by repeat (first | (with_reducible first | exact Below.refl _ _ | apply below_alloc | apply pw_below_drewN | apply below_drew1) | exact Below.refl _ _)) : Below w1_.heap.size w1_ _)).trans M0; clear M0 hx2 HI2; have n0_ := Aside0.mk (HM.out.trans M1); have n1_ := Aside0.mk (M1.tb _ _ HT.out); have n2_ := Aside0.mk (E45.mk_ M1 HE.out); have n3_ := Aside0.mk HB1; clear HM HT HE HB M1 HB1; have HM := n0_; have HT := n1_; have HE := n2_; have HB := n3_; clear n0_ n1_ n2_ n3_; obtain ⟨ov3, hx3, _⟩ := HE.out.2.2.2.1; have hf3 : w2_.frozen? ⟨g, x5.toNat * 6 + 3, none⟩ = false := HT.out.frozen _) | ((with_reducible refine gate_store (t := 3) (p := 37) rfl ?_); refine store_event (t := 3) (p := 37) (v := ?vo3_) (w1 := (w2_.setCell ⟨g, x5.toNat * 6 + 3, none⟩ (.int .i64 (up (tot c90 el.f2) (wrap64 (wrap64 (x1 + 1) + 1)))))) ?hg ?ho ?hn ?hr ?_; (case ho => rfl); (case hg => rfl); (case hn => rfl); (case hr => first | (go_simp; done) | (go_simp; rfl)); intro w3_ hw; have M1 : MK w0.heap.size w2_ w3_ := (by rw [hw]; exact MK.store HT.out (by unfold mkT; omega) GB.out (by have h_ := HE.out.2.2.2.1; (try unfold E4 at h_); simpa using h_) (NS.int _ _)); have HB1 : Below w0.heap.size w0 w3_ := (by rw [hw]; exact below_set HB.out GB.out); clear hw; clear hx3 hf3; have n0_ := Aside0.mk (HM.out.trans M1); have n1_ := Aside0.mk (M1.tb _ _ HT.out); have n2_ := Aside0.mk (E45.mk_ M1 HE.out); have n3_ := Aside0.mk HB1; clear HM HT HE HB M1 HB1; have HM := n0_; have HT := n1_; have HE := n2_; have HB := n3_; clear n0_ n1_ n2_ n3_; obtain ⟨A4, c4, hx4, hi4⟩ := HE.out.2.2.2.2.1; have HI4 := Aside0.mk hi4; clear hi4) | (go_at_call 31; refine (laws_markBatSigS.mk w0 _ (vW0 HB.out) A4 c4 el.f4 (wrap64 (up (tot c90 el.f2) (wrap64 (wrap64 (x1 + 1) + 1)) + 1)) (HI4.out.mk_ (MK.below w0.heap.size (by repeat (first | (with_reducible first | exact Below.refl _ _ | apply below_alloc | apply pw_below_drewN | apply below_drew1) | exact Below.refl _ _))) (fun _ _ _ hx => E93.mk_ (MK.below w0.heap.size (by repeat (first | (with_reducible first | exact Below.refl _ _ | apply below_alloc | apply pw_below_drewN | apply below_drew1) | exact Below.refl _ _))) hx)) (by have h1_ := HN.out; have h2_ := HQ.out; have h3_ := c45_eq el; omega)).mono ?_; rintro e w4_ ⟨rfl, HB1, M0⟩; have M1 := (MK.below w0.heap.size ((by repeat (first | (with_reducible first | exact Below.refl _ _ | apply below_alloc | apply pw_below_drewN | apply below_drew1) | exact Below.refl _ _)) : Below w3_.heap.size w3_ _)).trans M0; clear M0 hx4 HI4; have n0_ := Aside0.mk (HM.out.trans M1); have n1_ := Aside0.mk (M1.tb _ _ HT.out); have n2_ := Aside0.mk (E45.mk_ M1 HE.out); have n3_ := Aside0.mk HB1; clear HM HT HE HB M1 HB1; have HM := n0_; have HT := n1_; have HE := n2_; have HB := n3_; clear n0_ n1_ n2_ n3_; obtain ⟨A5, c5, hx5, hi5⟩ := HE.out.2.2.2.2.2; have HI5 := Aside0.mk hi5; clear hi5) | (go_at_call 32; refine (laws_markBoolS.mk w0 _ (vW0 HB.out) A5 c5 el.f5 (up (tot (fun _ => 3) el.f4) (wrap64 (up (tot c90 el.f2) (wrap64 (wrap64 (x1 + 1) + 1)) + 1))) (HI5.out.mk_ (MK.below w0.heap.size (by repeat (first | (with_reducible first | exact Below.refl _ _ | apply below_alloc | apply pw_below_drewN | apply below_drew1) | exact Below.refl _ _))) (fun _ _ _ hx => E4.mk_ (MK.below w0.heap.size (by repeat (first | (with_reducible first | exact Below.refl _ _ | apply below_alloc | apply pw_below_drewN | apply below_drew1) | exact Below.refl _ _))) hx)) (by have h1_ := HN.out; have h2_ := HQ.out; have h3_ := c45_eq el; omega)).mono ?_; rintro e w5_ ⟨rfl, HB1, M0⟩; have M1 := (MK.below w0.heap.size ((by repeat (first | (with_reducible first | exact Below.refl _ _ | apply below_alloc | apply pw_below_drewN | apply below_drew1) | exact Below.refl _ _)) : Below w4_.heap.size w4_ _)).trans M0; clear M0 hx5 HI5; have n0_ := Aside0.mk (HM.out.trans M1); have n1_ := Aside0.mk (M1.tb _ _ HT.out); have n2_ := Aside0.mk (E45.mk_ M1 HE.out); have n3_ := Aside0.mk HB1; clear HM HT HE HB M1 HB1; have HM := n0_; have HT := n1_; have HE := n2_; have HB := n3_; clear n0_ n1_ n2_ n3_))
   go_roundg k1
   case measure => omega
   case rel =>
    refine ⟨up (tot (fun _ => 1) el.f5) (up (tot (fun _ => 3) el.f4) (wrap64 (up (tot c90 el.f2) (wrap64 (wrap64 (x1 + 1) + 1)) + 1))), wrap64 (x5 + 1), (by first | rfl | (simp; done) | (simp [*]; done)), (by first | rfl | (simp; done) | (simp [*]; done)), ⟨?_, ?_, ?_⟩, ⟨(vW0 HB.out)⟩, ⟨HM.out.trans (MK.below _ (by repeat (first | (with_reducible first | exact Below.refl _ _ | apply below_alloc | apply pw_below_drewN | apply below_drew1) | exact Below.refl _ _)))⟩⟩
    ·rw [HW.out]; have := HI.out.1; omega
    ·rw [HW.out]; have := HI.out.2.1; omega
    ·have h0 := HI.out.1
     have e0 : (wrap64 (x5 + 1)).toNat = x5.toNat + 1 := by rw [HW.out]; omega
     have e1 := HI.out.2.2
     rw [HD.out, up_add] at e1
     rw [e0]
     refine Eq.trans (congrArg _ ?_) e1
     first
     | rfl
     | (symm; (try unfold c64); (try unfold c90); (try unfold c45); simp only [up_add]; rfl)
  ·have c3b0 : decide (x5 < (xs.length : Int)) = false := decide_eq_false c3
   have hz : xs.drop x5.toNat = [] := List.drop_eq_nil_of_le (by have := HI.out.1; omega)
   have e1 := HI.out.2.2
   rw [hz] at e1
   have HX := Aside0.mk (show x1 = _ from e1)
   clear e1 hz c3
   go_wp2
   go_ret
   exact ⟨by rw [← HX.out]; rfl, (vW0 HB.out), HM.out.trans (MK.below _ (by repeat (first | (with_reducible first | exact Below.refl _ _ | apply below_alloc | apply pw_below_drewN | apply below_drew1) | exact Below.refl _ _)))⟩


def markS (P : Nat → Prop) (w : World) (k : Nat) : Prop := P k ∨ ∃ t, Tb w k t ∧ mkT t
theorem MK.blk {B : Nat} {w w' : World} (h : MK B w w') {g t : Nat} {cs : Array Value} (hb : w.heap[g]? = some (.cells cs t (0, 0))) (ht : ¬ mkT t) : w'.heap[g]? = some (.cells cs t (0, 0)) := by
 refine (h.keep g (blk_lt hb) (.inr fun t' ht' hm => ht ?_)).trans hb
 obtain ⟨c, hc⟩ := ht'
 rw [hb] at hc
 injection hc with hc
 injection hc with _ e _
 subst e
 exact hm
theorem MK.ints {B b : Nat} {w w' : World} (h : MK B w w') {ok : Nat → Prop} {v : Value} {xs : List Int} (hr : Kd.R (Kd.int .i64) 3 w b ok v xs) : Kd.R (Kd.int .i64) 3 w' b ok v xs := by
 refine Kd.R_mono (Kd.R_move (Kd.R_bound hr) (fun k hk => h.keep k hk.2.2.1 (.inr fun t ht hm => ?_))) (fun _ hk => hk.1)
 obtain ⟨_, _, _, q, hq, c, hc⟩ := hk
 obtain ⟨c', hc'⟩ := ht
 rw [hc] at hc'
 injection hc' with hc'
 injection hc' with _ e _
 have hq3 : q = 3 := by simpa [Kd.int, Kd.scalar] using hq
 subst e
 subst hq3
 unfold mkT at hm
 omega
theorem Kept.mk {B : Nat} {w w2 w3 : World} {P : Nat → Prop} (h : Kept w w2 (markS P w)) (m : MK B w2 w3) : Kept w w3 (markS P w) := by
 refine ⟨Nat.le_trans h.1 m.size, fun i hi hn => ?_⟩
 have e := h.2 i hi hn
 refine (m.keep i (Nat.lt_of_lt_of_le hi h.1) (.inr fun t ht hm => hn (.inr ⟨t, ?_, hm⟩))).trans e
 obtain ⟨c, hc⟩ := ht
 exact ⟨c, e.symm.trans hc⟩
theorem Row.of_A {α : Type} {d : Kd α} {t : Nat} {w : World} {B : Nat} {ok : Nat → Prop} {A : Option Addr} {n c : Nat} {xs : List α} (h : d.R t w B ok (.slice A n c) xs) (E : World → Nat → Nat → α → Prop) (z : α)
  (hE : ∀ ok x c g o, d.M w B ok x c → (∀ j u, c[j]? = some u → w.cell? ⟨g, o + j, none⟩ = some u) → E w g o x) : Row w B t d.sz E z A xs := by
 obtain ⟨A', c', e, hr⟩ := Row.of_R h E z hE
 injection e with e1 e2 e3
 subst e1
 exact hr
theorem below_sizeK {w0 w : World} (h : Below w0.heap.size w0 w) : w0.heap.size ≤ w.heap.size := h.size
theorem noMk_blk {w : World} {g t : Nat} {cs : Array Value} (hb : w.heap[g]? = some (.cells cs t (0, 0))) (ht : ¬ mkT t) : ¬ ∃ t', Tb w g t' ∧ mkT t' := by
 rintro ⟨t', ⟨c, hc⟩, hm⟩
 rw [hb] at hc
 injection hc with hc
 injection hc with _ e _
 subst e
 exact ht hm
theorem R_keptM {W W2 : World} {b : Nat} {P ok : Nat → Prop} {v : Value} {xs : List Int} (h : Kd.R (Kd.int .i64) 3 W b ok v xs) (hk : Kept W W2 (markS P W)) (hne : ∀ k, ok k → ¬ P k) : Kd.R (Kd.int .i64) 3 W2 b (fun k => ok k ∧ (¬ P k ∧ k < W.heap.size)) v xs := by
 refine Kd.R_mono (Kd.R_move (Kd.R_bound h) (fun k hk' => hk.2 k hk'.2.2.1 (fun hs => hs.elim (hne k hk'.1) ?_))) (fun k hk' => ⟨hk'.1, hne k hk'.1, hk'.2.2.1⟩)
 obtain ⟨_, _, _, q, hq, c, hc⟩ := hk'
 have hq3 : q = 3 := by simpa [Kd.int, Kd.scalar] using hq
 subst hq3
 exact noMk_blk hc (by unfold mkT; omega)
def laws_markHouHouse.f (k : Nat) (l0_0 : List Int) (l0_1 : List (S64)) (l0_2 : List (S45)) (a1 : Int) : Option (Int × List Int) := if tot c64 l0_1 + tot c45 l0_2 ≤ 4611686018427387904 then (laws_markIntS.f k l0_0 a1).bind fun t => some (up (tot c45 l0_2) (up (tot c64 l0_1) t.1), t.2) else none
theorem laws_markHouHouse.mono : ∀ a0 a1 a2 a3 k, LeO (laws_markHouHouse.f k a0 a1 a2 a3) (laws_markHouHouse.f (k + 1) a0 a1 a2 a3) := by
 intro a0 a1 a2 a3 k
 unfold laws_markHouHouse.f
 exact LeO.ite (LeO.bind (laws_markIntS.mono _ _ _) (fun _ => LeO.refl _)) (LeO.none _)
set_option maxHeartbeats 8000000 in
set_option maxRecDepth 100000 in
theorem laws_markHouHouse.calls (k : Nat) (P0_ : Nat → Prop) (u9000_ : Value) (l0_0 : List Int) (A0_1 : Option Addr) (c0_1 : Nat) (l0_1 : List (S64)) (A0_2 : Option Addr) (c0_2 : Nat) (l0_2 : List (S45)) (a1 : Int) (r1 : Int) (r2 : List Int) (w0 w : World) (hB : Below w0.heap.size w0 w) (ho0 : Kd.R (Kd.int .i64) 3 w w0.heap.size P0_ u9000_ l0_0) (hr0_1 : ∀ W', Kept w W' (fun k_ => P0_ k_) → Row W' w0.heap.size 64 2 (E64 w0.heap.size) z64 A0_1 l0_1) (hc0_1 : l0_1.length ≤ c0_1) (hr0_2 : ∀ W', Kept w W' (fun k_ => P0_ k_) → Row W' w0.heap.size 45 6 (E45 w0.heap.size) z45 A0_2 l0_2) (hc0_2 : l0_2.length ≤ c0_2) (h : laws_markHouHouse.f k l0_0 l0_1 l0_2 a1 = some (r1, r2)) :
  Calls Try.prog 10 #[.agg #[u9000_, .slice A0_1 l0_1.length c0_1, .slice A0_2 l0_2.length c0_2], .int .i64 a1] w fun e w' => e = .returned (.int .i64 r1) ∧ Kd.R (Kd.int .i64) 3 w' w0.heap.size (fun k_ => (P0_ k_ ∨ w.heap.size ≤ k_)) u9000_ r2 ∧ Below w0.heap.size w0 w' ∧ Kept w w' (markS P0_ w) := by
 have hu32 := Try.underlying32
 unfold laws_markHouHouse.f at h
 by_cases hn : tot c64 l0_1 + tot c45 l0_2 ≤ 4611686018427387904
 ·rw [if_pos hn] at h
  have hX := Option.bind_eq_some_iff.mp h
  clear h
  obtain ⟨⟨x1, x2⟩, hX, h⟩ := hX
  replace h : some (up (tot c45 l0_2) (up (tot c64 l0_1) x1), x2) = some (r1, r2) := h
  simp only [Option.some.injEq, Prod.mk.injEq] at h
  obtain ⟨rfl, e2⟩ := h
  subst e2
  obtain ⟨A9, c9, eu⟩ := Kd.R_slice ho0
  subst eu
  have HW := Aside0.mk ho0
  have HO := Aside0.mk ho0
  have HB := Aside0.mk hB
  have HX := Aside0.mk hX
  have HN := Aside0.mk hn
  have hr1_ := Aside0.mk hr0_1
  have hr2_ := Aside0.mk hr0_2
  have HK := Aside0.mk (Kept.refl w (fun k_ => P0_ k_))
  clear ho0 hB hX hn hr0_1 hr0_2 hc0_1 hc0_2
  go_enter Try.func10, Try.ntmps10
  go_wp2_with (first | ((with_reducible refine gate_dst (N := 2) rfl ?_); refine box_event ?hg (N := 2) ?hd (cs := #[.slice A9 l0_0.length c9, .slice A0_1 l0_1.length c0_1, .slice A0_2 l0_2.length c0_2]) (t := 32) ?hr ?_; (case hd => rfl); (case hg => rfl); (case hr => first | (go_simp; done) | (go_simp; rfl)); intro gb hg w1 hbox hb; have n0_ := Aside0.mk (Kd.R_below (vR HO.out) hb); have n1_ := Aside0.mk (below_then (vW0 HB.out) (below_sizeK HB.out) hb); have n2_ := Aside0.mk hbox; have n3_ : Aside0 (w.heap.size ≤ gb) := ⟨Nat.le_of_eq hg.symm⟩; have n4_ := Aside0.mk (Kept.below (by repeat (first | exact HK.out | apply Kept.drewN | apply Kept.drew)) hb); clear HO HB HK; have HO := n0_; have HB := n1_; have BK := n2_; have GE := n3_; have HK := n4_; clear n0_ n1_ n2_ n3_ n4_; clear hb hbox hg; have NE : Aside0 (¬ (some gb = (Value.slice A9 l0_0.length c9).ownBlock)) := ⟨fun e_ => Nat.lt_irrefl _ (Nat.lt_of_lt_of_le (Kd.R_lt HW.out gb e_.symm) GE.out)⟩; have hcz0 : w1.cell? ⟨gb, 0, none⟩ = some (.slice A9 l0_0.length c9) := (blk_cell BK.out 0).trans rfl; have hfz0 := blk_frozen BK.out 0; have hcz1 : w1.cell? ⟨gb, 1, none⟩ = some (.slice A0_1 l0_1.length c0_1) := (blk_cell BK.out 1).trans rfl; have hfz1 := blk_frozen BK.out 1; have hcz2 : w1.cell? ⟨gb, 2, none⟩ = some (.slice A0_2 l0_2.length c0_2) := (blk_cell BK.out 2).trans rfl; have hfz2 := blk_frozen BK.out 2) | (go_at_call 11; refine (laws_markIntS.calls k (fun k_ => some k_ = (Value.slice A9 l0_0.length c9).ownBlock) (.slice A9 l0_0.length c9) l0_0 a1 x1 x2 w0 _ ?hB ?ho HX.out).mono ?_; (case hB => exact (vW0 HB.out)); (case ho => exact Kd.R_tight rfl (vR HO.out)); rintro e w2 ⟨rfl, ho2, hb2, hk2⟩; clear hcz0 hcz1 hcz2 hfz0 hfz1 hfz2; have n0_ := Aside0.mk (blk_kept (vB BK.out) hk2 NE.out); have n1_ := Aside0.mk (Kd.R_mono (ok' := fun k_ => (P0_ k_ ∨ w.heap.size ≤ k_)) ho2 (fun k_ hk_ => hk_.elim (fun e_ => Or.inl (HW.out.1 k_ e_.symm)) (fun g_ => Or.inr (Nat.le_trans HK.out.1 g_)))); have n2_ := Aside0.mk (HK.out.then_ (S2 := fun k_ => some k_ = (Value.slice A9 l0_0.length c9).ownBlock) hk2 (fun k_ e_ => Or.inl (HW.out.1 k_ e_.symm))); have n3_ := Aside0.mk hb2; clear BK HO HK HB; have BK := n0_; have HO := n1_; have HK0 := n2_; have HB := n3_; clear n0_ n1_ n2_ n3_; clear ho2 hb2 hk2; have HK := Aside0.mk (HK0.out.mono (S' := markS P0_ w) (fun k_ h_ => Or.inl h_)); have H1 := Aside0.mk (hr1_.out _ HK0.out); have H2 := Aside0.mk (hr2_.out _ HK0.out); clear HK0; have hcz0 : w2.cell? ⟨gb, 0, none⟩ = some (.slice A9 l0_0.length c9) := (blk_cell BK.out 0).trans rfl; have hfz0 := blk_frozen BK.out 0; have hcz1 : w2.cell? ⟨gb, 1, none⟩ = some (.slice A0_1 l0_1.length c0_1) := (blk_cell BK.out 1).trans rfl; have hfz1 := blk_frozen BK.out 1; have hcz2 : w2.cell? ⟨gb, 2, none⟩ = some (.slice A0_2 l0_2.length c0_2) := (blk_cell BK.out 2).trans rfl; have hfz2 := blk_frozen BK.out 2) | (go_at_call 21; refine (laws_markSpcSpecS.mk w0 _ (vW0 HB.out) A0_1 c0_1 l0_1 x1 (H1.out.mk_ (MK.below w0.heap.size (by repeat (first | (with_reducible first | exact Below.refl _ _ | apply below_alloc | apply pw_below_drewN | apply below_drew1) | exact Below.refl _ _))) (fun _ _ _ hx => E64.mk_ (MK.below w0.heap.size (by repeat (first | (with_reducible first | exact Below.refl _ _ | apply below_alloc | apply pw_below_drewN | apply below_drew1) | exact Below.refl _ _))) hx)) (by have h1_ := HN.out; omega)).mono ?_; rintro e w3 ⟨rfl, HB1, M0⟩; have M1 := (MK.below w0.heap.size ((by repeat (first | (with_reducible first | exact Below.refl _ _ | apply below_alloc | apply pw_below_drewN | apply below_drew1) | exact Below.refl _ _)) : Below w2.heap.size w2 _)).trans M0; clear M0; clear hcz0 hcz1 hcz2 hfz0 hfz1 hfz2; have n0_ := Aside0.mk (M1.blk BK.out (by unfold mkT; omega)); have n1_ := Aside0.mk (M1.ints HO.out); have n2_ := Aside0.mk (Kept.mk HK.out M1); have n3_ := Aside0.mk HB1; have n4_ := Aside0.mk (H2.out.mk_ M1 (fun _ _ _ hx => E45.mk_ M1 hx)); clear H2; have H2 := n4_; clear n4_; clear BK HO HK HB; have BK := n0_; have HO := n1_; have HK := n2_; have HB := n3_; clear n0_ n1_ n2_ n3_ M1 HB1; have hcz0 : w3.cell? ⟨gb, 0, none⟩ = some (.slice A9 l0_0.length c9) := (blk_cell BK.out 0).trans rfl; have hfz0 := blk_frozen BK.out 0; have hcz1 : w3.cell? ⟨gb, 1, none⟩ = some (.slice A0_1 l0_1.length c0_1) := (blk_cell BK.out 1).trans rfl; have hfz1 := blk_frozen BK.out 1; have hcz2 : w3.cell? ⟨gb, 2, none⟩ = some (.slice A0_2 l0_2.length c0_2) := (blk_cell BK.out 2).trans rfl; have hfz2 := blk_frozen BK.out 2) | (go_at_call 22; refine (laws_markBatBatchS.mk w0 _ (vW0 HB.out) A0_2 c0_2 l0_2 (up (tot c64 l0_1) x1) (H2.out.mk_ (MK.below w0.heap.size (by repeat (first | (with_reducible first | exact Below.refl _ _ | apply below_alloc | apply pw_below_drewN | apply below_drew1) | exact Below.refl _ _))) (fun _ _ _ hx => E45.mk_ (MK.below w0.heap.size (by repeat (first | (with_reducible first | exact Below.refl _ _ | apply below_alloc | apply pw_below_drewN | apply below_drew1) | exact Below.refl _ _))) hx)) (by have h1_ := HN.out; omega)).mono ?_; rintro e w4 ⟨rfl, HB1, M0⟩; have M1 := (MK.below w0.heap.size ((by repeat (first | (with_reducible first | exact Below.refl _ _ | apply below_alloc | apply pw_below_drewN | apply below_drew1) | exact Below.refl _ _)) : Below w3.heap.size w3 _)).trans M0; clear M0; clear hcz0 hcz1 hcz2 hfz0 hfz1 hfz2; have n0_ := Aside0.mk (M1.blk BK.out (by unfold mkT; omega)); have n1_ := Aside0.mk (M1.ints HO.out); have n2_ := Aside0.mk (Kept.mk HK.out M1); have n3_ := Aside0.mk HB1; clear BK HO HK HB; have BK := n0_; have HO := n1_; have HK := n2_; have HB := n3_; clear n0_ n1_ n2_ n3_ M1 HB1; have hcz0 : w4.cell? ⟨gb, 0, none⟩ = some (.slice A9 l0_0.length c9) := (blk_cell BK.out 0).trans rfl; have hfz0 := blk_frozen BK.out 0; have hcz1 : w4.cell? ⟨gb, 1, none⟩ = some (.slice A0_1 l0_1.length c0_1) := (blk_cell BK.out 1).trans rfl; have hfz1 := blk_frozen BK.out 1; have hcz2 : w4.cell? ⟨gb, 2, none⟩ = some (.slice A0_2 l0_2.length c0_2) := (blk_cell BK.out 2).trans rfl; have hfz2 := blk_frozen BK.out 2))
  go_ret
  exact ⟨rfl, by (with_reducible repeat (first | apply Kd.R_alloc | apply Kd.R_drewN | apply Kd.R_drew)); exact HO.out, (vW0 HB.out), (by repeat (first | exact HK.out | apply Kept.drewN | apply Kept.drew))⟩
 ·rw [if_neg hn] at h
  exact absurd h (by simp)


end Go.Proofs.Ytcifhhgoippmbaa.All
