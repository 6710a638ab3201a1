-- Written by the session's own program wip/allprint.py, which drives the kit's print; Lean checks it.
import Derived.Test.YtcifhhgoippmbaaAllx0
import Derived.WalkKit
import Derived.OpenShut
import Derived.ChangeArms
import Derived.Deep.Slices
import Derived.Deep.Fields
import Derived.KernelRfl
namespace Go.Proofs.Ytcifhhgoippmbaa.All
open Go.RowKit Go.Proofs.YtcifhhgoippmbaaW.PrintWords Go.Proofs.YtcifhhgoippmbaaW.PrintLast
set_option linter.unusedVariables false

/-- What a reading by 'trod' gives: the value, its cells as the kind tells them, and what is known of it. -/
def Opens {α : Type} (P : Program) (t : TypeId) (d : Kd α) (G : α → Prop) : Prop :=
  ∀ (H : Type) (enc : TypeId × Value → H) (w : World) (base : Nat) (spare : Nat → Bool) (held : Bool) (fuel : Nat) (cs : List Value) (x : DataW H × List MemPlace), DataW.trod enc P w base spare held fuel t cs = some x → ∃ a, d.K w a cs ∧ G a
theorem opens_int {P : Program} {t : TypeId} {k : IntKind} (ht : P.underlying t = some (.int k)) : Opens P t (Kd.int k) (fun a => (Lit.int k a).wf = true) := by
  intro H enc w base spare held fuel cs x h
  obtain ⟨n, rfl, _, hw⟩ := DataW.trod_int ht h
  exact ⟨n, rfl, hw⟩
theorem opens_bool {P : Program} {t : TypeId} (ht : P.underlying t = some .bool) : Opens P t Kd.bool (fun _ => True) := by
  intro H enc w base spare held fuel cs x h
  obtain ⟨n, rfl, _⟩ := DataW.trod_bool ht h
  exact ⟨n, rfl, trivial⟩
theorem opens_string {P : Program} {t : TypeId} (ht : P.underlying t = some .string) : Opens P t Kd.string (fun s => s.size ≤ maxLen) := by
  intro H enc w base spare held fuel cs x h
  obtain ⟨n, rfl, _, hw⟩ := DataW.trod_string ht h
  exact ⟨n, rfl, hw⟩
theorem opens_slice {α : Type} {P : Program} {t e : TypeId} {e' : Nat} {d : Kd α} {G : α → Prop} (ht : P.underlying t = some (.slice e)) (he : Opens P e d G) (hs : P.cellsOf e = d.sz) :
    Opens P t (Kd.slice e' d) (fun l => l.length ≤ maxLen ∧ ∀ z ∈ l, G z) := by
  intro H enc w base spare held fuel cs x h
  rcases DataW.trod_slice ht h with ⟨rfl, _⟩ | ⟨a, len, cap, elems, rest, n, _, rfl, _, hb, hl, hm, hlen, hel, _, _⟩
  · exact ⟨[], ⟨none, 0, rfl, Nat.le_refl _, ⟨rfl, by simp, fun h0 => absurd h0 (by simp)⟩⟩, by simp, by simp⟩
  · have hq : ∀ m, m ≤ len → ∃ ps : List α, ps.length = m ∧ ∀ (j : Nat) (p : α), ps[j]? = some p → (∃ c, c.length = d.sz ∧ d.K w p c ∧ ∀ (i : Nat) (u : Value), c[i]? = some u → w.cell? (a.add (j * d.sz + i)) = some u) ∧ G p := by
      intro m
      induction m with
      | zero => exact fun _ => ⟨[], rfl, fun j p hj => by simp at hj⟩
      | succ m ih =>
        intro hm1
        obtain ⟨ps, hps, hall⟩ := ih (by omega)
        have h1 := hel m (by omega)
        rw [List.getElem?_eq_getElem (by omega)] at h1
        obtain ⟨c, hc, htr⟩ := Option.bind_eq_some_iff.mp h1
        obtain ⟨p, hk, hg⟩ := he _ _ _ _ _ _ _ _ _ htr
        obtain ⟨_, hcl, hcell⟩ := World.cells?_some hc
        refine ⟨ps ++ [p], by simp [hps], fun j q hj => ?_⟩
        by_cases hjm : j < m
        · rw [List.getElem?_append_left (by omega)] at hj
          exact hall j q hj
        · by_cases hje : j = m
          · subst hje
            rw [List.getElem?_append_right (by omega), hps, Nat.sub_self] at hj
            obtain rfl : p = q := by simpa using hj
            refine ⟨⟨c, by rw [hcl, hs], hk, fun i u hu => ?_⟩, hg⟩
            have hi : i < P.cellsOf e := by rw [← hcl]; exact (List.getElem?_eq_some_iff.1 hu).1
            rw [← hs, ← Go.Deep.add_add, hcell i hi, hu]
          · rw [List.getElem?_eq_none (by simp [hps]; omega)] at hj
            cases hj
    obtain ⟨ps, hps, hall⟩ := hq len (Nat.le_refl _)
    refine ⟨ps, ⟨some a, cap, by rw [hps], by omega, ⟨rfl, by rw [hps]; unfold maxLen at hm; omega, fun _ => ⟨a, rfl, fun j p hj => (hall j p hj).1⟩⟩⟩, by rw [hps]; exact Nat.le_trans hl hm, fun z hz => ?_⟩
    obtain ⟨j, hj⟩ := List.getElem?_of_mem hz
    exact (hall j z hj).2

theorem list2 {α : Type} : ∀ {l : List α}, l.length = 2 → ∃ c0 c1, l = [c0, c1]
  | [c0, c1], _ => ⟨c0, c1, rfl⟩
theorem list3 {α : Type} : ∀ {l : List α}, l.length = 3 → ∃ c0 c1 c2, l = [c0, c1, c2]
  | [c0, c1, c2], _ => ⟨c0, c1, c2, rfl⟩
theorem list6 {α : Type} : ∀ {l : List α}, l.length = 6 → ∃ c0 c1 c2 c3 c4 c5, l = [c0, c1, c2, c3, c4, c5]
  | [c0, c1, c2, c3, c4, c5], _ => ⟨c0, c1, c2, c3, c4, c5, rfl⟩
theorem list11 {α : Type} : ∀ {l : List α}, l.length = 11 → ∃ c0 c1 c2 c3 c4 c5 c6 c7 c8 c9 c10, l = [c0, c1, c2, c3, c4, c5, c6, c7, c8, c9, c10]
  | [c0, c1, c2, c3, c4, c5, c6, c7, c8, c9, c10], _ => ⟨c0, c1, c2, c3, c4, c5, c6, c7, c8, c9, c10, rfl⟩
def G95 (x : S95) : Prop := ((Lit.int .i64 x.f0).wf = true) ∧ ((Lit.int .i64 x.f1).wf = true)
theorem opens95 : Opens Try.prog 95 k95 G95 := by
  intro H enc w base spare held fuel cs x h
  obtain ⟨xs, n, _, _, hl, hx, hf⟩ := DataW.trod_struct Try.underlying95 h
  obtain ⟨c0, c1, rfl⟩ := list2 (hl.trans (by kernel_rfl))
  have z0 := hf 0 _ rfl
  rw [List.getElem?_eq_getElem (by rw [hx]; decide)] at z0
  have e0 : Try.prog.cellsOf 3 = 1 := by kernel_rfl
  change DataW.trod enc Try.prog w base spare held n 3 (List.take (Try.prog.cellsOf 3) (List.drop 0 [c0, c1])) = some _ at z0
  rw [e0] at z0
  change DataW.trod enc Try.prog w base spare held n 3 [c0] = some _ at z0
  obtain ⟨a0, k0, g0⟩ := (opens_int Try.underlying3) _ _ _ _ _ _ _ _ _ z0
  have z1 := hf 1 _ rfl
  rw [List.getElem?_eq_getElem (by rw [hx]; decide)] at z1
  have e1 : Try.prog.cellsOf 3 = 1 := by kernel_rfl
  change DataW.trod enc Try.prog w base spare held n 3 (List.take (Try.prog.cellsOf 3) (List.drop 1 [c0, c1])) = some _ at z1
  rw [e1] at z1
  change DataW.trod enc Try.prog w base spare held n 3 [c1] = some _ at z1
  obtain ⟨a1, k1, g1⟩ := (opens_int Try.underlying3) _ _ _ _ _ _ _ _ _ z1
  exact ⟨⟨a0, a1⟩, ⟨[c0], [c1], rfl, k0, k1⟩, ⟨g0, g1⟩⟩
def G97 (x : S97) : Prop := ((Lit.int .i64 x.f0).wf = true) ∧ (G95 x.f1) ∧ (G95 x.f2) ∧ ((Lit.int .i64 x.f3).wf = true)
theorem opens97 : Opens Try.prog 97 k97 G97 := by
  intro H enc w base spare held fuel cs x h
  obtain ⟨xs, n, _, _, hl, hx, hf⟩ := DataW.trod_struct Try.underlying97 h
  obtain ⟨c0, c1, c2, c3, c4, c5, rfl⟩ := list6 (hl.trans (by kernel_rfl))
  have z0 := hf 0 _ rfl
  rw [List.getElem?_eq_getElem (by rw [hx]; decide)] at z0
  have e0 : Try.prog.cellsOf 3 = 1 := by kernel_rfl
  change DataW.trod enc Try.prog w base spare held n 3 (List.take (Try.prog.cellsOf 3) (List.drop 0 [c0, c1, c2, c3, c4, c5])) = some _ at z0
  rw [e0] at z0
  change DataW.trod enc Try.prog w base spare held n 3 [c0] = some _ at z0
  obtain ⟨a0, k0, g0⟩ := (opens_int Try.underlying3) _ _ _ _ _ _ _ _ _ z0
  have z1 := hf 1 _ rfl
  rw [List.getElem?_eq_getElem (by rw [hx]; decide)] at z1
  have e1 : Try.prog.cellsOf 95 = 2 := by kernel_rfl
  change DataW.trod enc Try.prog w base spare held n 95 (List.take (Try.prog.cellsOf 95) (List.drop 1 [c0, c1, c2, c3, c4, c5])) = some _ at z1
  rw [e1] at z1
  change DataW.trod enc Try.prog w base spare held n 95 [c1, c2] = some _ at z1
  obtain ⟨a1, k1, g1⟩ := opens95 _ _ _ _ _ _ _ _ _ z1
  have z2 := hf 2 _ rfl
  rw [List.getElem?_eq_getElem (by rw [hx]; decide)] at z2
  have e2 : Try.prog.cellsOf 95 = 2 := by kernel_rfl
  change DataW.trod enc Try.prog w base spare held n 95 (List.take (Try.prog.cellsOf 95) (List.drop 3 [c0, c1, c2, c3, c4, c5])) = some _ at z2
  rw [e2] at z2
  change DataW.trod enc Try.prog w base spare held n 95 [c3, c4] = some _ at z2
  obtain ⟨a2, k2, g2⟩ := opens95 _ _ _ _ _ _ _ _ _ z2
  have z3 := hf 3 _ rfl
  rw [List.getElem?_eq_getElem (by rw [hx]; decide)] at z3
  have e3 : Try.prog.cellsOf 3 = 1 := by kernel_rfl
  change DataW.trod enc Try.prog w base spare held n 3 (List.take (Try.prog.cellsOf 3) (List.drop 5 [c0, c1, c2, c3, c4, c5])) = some _ at z3
  rw [e3] at z3
  change DataW.trod enc Try.prog w base spare held n 3 [c5] = some _ at z3
  obtain ⟨a3, k3, g3⟩ := (opens_int Try.underlying3) _ _ _ _ _ _ _ _ _ z3
  exact ⟨⟨a0, a1, a2, a3⟩, ⟨[c0], [c1, c2, c3, c4, c5], rfl, k0, ⟨[c1, c2], [c3, c4, c5], rfl, k1, ⟨[c3, c4], [c5], rfl, k2, k3⟩⟩⟩, ⟨g0, g1, g2, g3⟩⟩
def G56 (x : S56) : Prop := (x.f0.length ≤ maxLen ∧ ∀ z_ ∈ x.f0, G97 z_) ∧ ((Lit.int .i64 x.f1).wf = true)
theorem opens56 : Opens Try.prog 56 k56 G56 := by
  intro H enc w base spare held fuel cs x h
  obtain ⟨xs, n, _, _, hl, hx, hf⟩ := DataW.trod_struct Try.underlying56 h
  obtain ⟨c0, c1, rfl⟩ := list2 (hl.trans (by kernel_rfl))
  have z0 := hf 0 _ rfl
  rw [List.getElem?_eq_getElem (by rw [hx]; decide)] at z0
  have e0 : Try.prog.cellsOf 54 = 1 := by kernel_rfl
  change DataW.trod enc Try.prog w base spare held n 54 (List.take (Try.prog.cellsOf 54) (List.drop 0 [c0, c1])) = some _ at z0
  rw [e0] at z0
  change DataW.trod enc Try.prog w base spare held n 54 [c0] = some _ at z0
  obtain ⟨a0, k0, g0⟩ := (opens_slice (e' := 97) Try.underlying54 opens97 (by kernel_rfl)) _ _ _ _ _ _ _ _ _ z0
  have z1 := hf 1 _ rfl
  rw [List.getElem?_eq_getElem (by rw [hx]; decide)] at z1
  have e1 : Try.prog.cellsOf 3 = 1 := by kernel_rfl
  change DataW.trod enc Try.prog w base spare held n 3 (List.take (Try.prog.cellsOf 3) (List.drop 1 [c0, c1])) = some _ at z1
  rw [e1] at z1
  change DataW.trod enc Try.prog w base spare held n 3 [c1] = some _ at z1
  obtain ⟨a1, k1, g1⟩ := (opens_int Try.underlying3) _ _ _ _ _ _ _ _ _ z1
  exact ⟨⟨a0, a1⟩, ⟨[c0], [c1], rfl, k0, k1⟩, ⟨g0, g1⟩⟩
def G100 (x : S100) : Prop := (G97 x.f0) ∧ ((Lit.int .i64 x.f1).wf = true) ∧ (G95 x.f2) ∧ ((Lit.int .i64 x.f3).wf = true) ∧ (x.f4.length ≤ maxLen ∧ ∀ z_ ∈ x.f4, G95 z_)
theorem opens100 : Opens Try.prog 100 k100 G100 := by
  intro H enc w base spare held fuel cs x h
  obtain ⟨xs, n, _, _, hl, hx, hf⟩ := DataW.trod_struct Try.underlying100 h
  obtain ⟨c0, c1, c2, c3, c4, c5, c6, c7, c8, c9, c10, rfl⟩ := list11 (hl.trans (by kernel_rfl))
  have z0 := hf 0 _ rfl
  rw [List.getElem?_eq_getElem (by rw [hx]; decide)] at z0
  have e0 : Try.prog.cellsOf 97 = 6 := by kernel_rfl
  change DataW.trod enc Try.prog w base spare held n 97 (List.take (Try.prog.cellsOf 97) (List.drop 0 [c0, c1, c2, c3, c4, c5, c6, c7, c8, c9, c10])) = some _ at z0
  rw [e0] at z0
  change DataW.trod enc Try.prog w base spare held n 97 [c0, c1, c2, c3, c4, c5] = some _ at z0
  obtain ⟨a0, k0, g0⟩ := opens97 _ _ _ _ _ _ _ _ _ z0
  have z1 := hf 1 _ rfl
  rw [List.getElem?_eq_getElem (by rw [hx]; decide)] at z1
  have e1 : Try.prog.cellsOf 3 = 1 := by kernel_rfl
  change DataW.trod enc Try.prog w base spare held n 3 (List.take (Try.prog.cellsOf 3) (List.drop 6 [c0, c1, c2, c3, c4, c5, c6, c7, c8, c9, c10])) = some _ at z1
  rw [e1] at z1
  change DataW.trod enc Try.prog w base spare held n 3 [c6] = some _ at z1
  obtain ⟨a1, k1, g1⟩ := (opens_int Try.underlying3) _ _ _ _ _ _ _ _ _ z1
  have z2 := hf 2 _ rfl
  rw [List.getElem?_eq_getElem (by rw [hx]; decide)] at z2
  have e2 : Try.prog.cellsOf 95 = 2 := by kernel_rfl
  change DataW.trod enc Try.prog w base spare held n 95 (List.take (Try.prog.cellsOf 95) (List.drop 7 [c0, c1, c2, c3, c4, c5, c6, c7, c8, c9, c10])) = some _ at z2
  rw [e2] at z2
  change DataW.trod enc Try.prog w base spare held n 95 [c7, c8] = some _ at z2
  obtain ⟨a2, k2, g2⟩ := opens95 _ _ _ _ _ _ _ _ _ z2
  have z3 := hf 3 _ rfl
  rw [List.getElem?_eq_getElem (by rw [hx]; decide)] at z3
  have e3 : Try.prog.cellsOf 3 = 1 := by kernel_rfl
  change DataW.trod enc Try.prog w base spare held n 3 (List.take (Try.prog.cellsOf 3) (List.drop 9 [c0, c1, c2, c3, c4, c5, c6, c7, c8, c9, c10])) = some _ at z3
  rw [e3] at z3
  change DataW.trod enc Try.prog w base spare held n 3 [c9] = some _ at z3
  obtain ⟨a3, k3, g3⟩ := (opens_int Try.underlying3) _ _ _ _ _ _ _ _ _ z3
  have z4 := hf 4 _ rfl
  rw [List.getElem?_eq_getElem (by rw [hx]; decide)] at z4
  have e4 : Try.prog.cellsOf 98 = 1 := by kernel_rfl
  change DataW.trod enc Try.prog w base spare held n 98 (List.take (Try.prog.cellsOf 98) (List.drop 10 [c0, c1, c2, c3, c4, c5, c6, c7, c8, c9, c10])) = some _ at z4
  rw [e4] at z4
  change DataW.trod enc Try.prog w base spare held n 98 [c10] = some _ at z4
  obtain ⟨a4, k4, g4⟩ := (opens_slice (e' := 95) Try.underlying98 opens95 (by kernel_rfl)) _ _ _ _ _ _ _ _ _ z4
  exact ⟨⟨a0, a1, a2, a3, a4⟩, ⟨[c0, c1, c2, c3, c4, c5], [c6, c7, c8, c9, c10], rfl, k0, ⟨[c6], [c7, c8, c9, c10], rfl, k1, ⟨[c7, c8], [c9, c10], rfl, k2, ⟨[c9], [c10], rfl, k3, k4⟩⟩⟩⟩, ⟨g0, g1, g2, g3, g4⟩⟩
def G104 (x : S104) : Prop := ((Lit.int .i64 x.f0).wf = true) ∧ ((Lit.int .i64 x.f1).wf = true) ∧ ((Lit.int .i64 x.f2).wf = true)
theorem opens104 : Opens Try.prog 104 k104 G104 := by
  intro H enc w base spare held fuel cs x h
  obtain ⟨xs, n, _, _, hl, hx, hf⟩ := DataW.trod_struct Try.underlying104 h
  obtain ⟨c0, c1, c2, rfl⟩ := list3 (hl.trans (by kernel_rfl))
  have z0 := hf 0 _ rfl
  rw [List.getElem?_eq_getElem (by rw [hx]; decide)] at z0
  have e0 : Try.prog.cellsOf 3 = 1 := by kernel_rfl
  change DataW.trod enc Try.prog w base spare held n 3 (List.take (Try.prog.cellsOf 3) (List.drop 0 [c0, c1, c2])) = some _ at z0
  rw [e0] at z0
  change DataW.trod enc Try.prog w base spare held n 3 [c0] = some _ at z0
  obtain ⟨a0, k0, g0⟩ := (opens_int Try.underlying3) _ _ _ _ _ _ _ _ _ z0
  have z1 := hf 1 _ rfl
  rw [List.getElem?_eq_getElem (by rw [hx]; decide)] at z1
  have e1 : Try.prog.cellsOf 3 = 1 := by kernel_rfl
  change DataW.trod enc Try.prog w base spare held n 3 (List.take (Try.prog.cellsOf 3) (List.drop 1 [c0, c1, c2])) = some _ at z1
  rw [e1] at z1
  change DataW.trod enc Try.prog w base spare held n 3 [c1] = some _ at z1
  obtain ⟨a1, k1, g1⟩ := (opens_int Try.underlying3) _ _ _ _ _ _ _ _ _ z1
  have z2 := hf 2 _ rfl
  rw [List.getElem?_eq_getElem (by rw [hx]; decide)] at z2
  have e2 : Try.prog.cellsOf 3 = 1 := by kernel_rfl
  change DataW.trod enc Try.prog w base spare held n 3 (List.take (Try.prog.cellsOf 3) (List.drop 2 [c0, c1, c2])) = some _ at z2
  rw [e2] at z2
  change DataW.trod enc Try.prog w base spare held n 3 [c2] = some _ at z2
  obtain ⟨a2, k2, g2⟩ := (opens_int Try.underlying3) _ _ _ _ _ _ _ _ _ z2
  exact ⟨⟨a0, a1, a2⟩, ⟨[c0], [c1, c2], rfl, k0, ⟨[c1], [c2], rfl, k1, k2⟩⟩, ⟨g0, g1, g2⟩⟩
def G61 (x : S61) : Prop := ((Lit.int .i64 x.f0).wf = true) ∧ ((Lit.int .i64 x.f1).wf = true) ∧ (x.f2.length ≤ maxLen ∧ ∀ z_ ∈ x.f2, G100 z_) ∧ ((Lit.int .i64 x.f3).wf = true) ∧ (x.f4.length ≤ maxLen ∧ ∀ z_ ∈ x.f4, G104 z_) ∧ (x.f5.length ≤ maxLen ∧ ∀ z_ ∈ x.f5, True)
theorem opens61 : Opens Try.prog 61 k61 G61 := by
  intro H enc w base spare held fuel cs x h
  obtain ⟨xs, n, _, _, hl, hx, hf⟩ := DataW.trod_struct Try.underlying61 h
  obtain ⟨c0, c1, c2, c3, c4, c5, rfl⟩ := list6 (hl.trans (by kernel_rfl))
  have z0 := hf 0 _ rfl
  rw [List.getElem?_eq_getElem (by rw [hx]; decide)] at z0
  have e0 : Try.prog.cellsOf 3 = 1 := by kernel_rfl
  change DataW.trod enc Try.prog w base spare held n 3 (List.take (Try.prog.cellsOf 3) (List.drop 0 [c0, c1, c2, c3, c4, c5])) = some _ at z0
  rw [e0] at z0
  change DataW.trod enc Try.prog w base spare held n 3 [c0] = some _ at z0
  obtain ⟨a0, k0, g0⟩ := (opens_int Try.underlying3) _ _ _ _ _ _ _ _ _ z0
  have z1 := hf 1 _ rfl
  rw [List.getElem?_eq_getElem (by rw [hx]; decide)] at z1
  have e1 : Try.prog.cellsOf 3 = 1 := by kernel_rfl
  change DataW.trod enc Try.prog w base spare held n 3 (List.take (Try.prog.cellsOf 3) (List.drop 1 [c0, c1, c2, c3, c4, c5])) = some _ at z1
  rw [e1] at z1
  change DataW.trod enc Try.prog w base spare held n 3 [c1] = some _ at z1
  obtain ⟨a1, k1, g1⟩ := (opens_int Try.underlying3) _ _ _ _ _ _ _ _ _ z1
  have z2 := hf 2 _ rfl
  rw [List.getElem?_eq_getElem (by rw [hx]; decide)] at z2
  have e2 : Try.prog.cellsOf 58 = 1 := by kernel_rfl
  change DataW.trod enc Try.prog w base spare held n 58 (List.take (Try.prog.cellsOf 58) (List.drop 2 [c0, c1, c2, c3, c4, c5])) = some _ at z2
  rw [e2] at z2
  change DataW.trod enc Try.prog w base spare held n 58 [c2] = some _ at z2
  obtain ⟨a2, k2, g2⟩ := (opens_slice (e' := 100) Try.underlying58 opens100 (by kernel_rfl)) _ _ _ _ _ _ _ _ _ z2
  have z3 := hf 3 _ rfl
  rw [List.getElem?_eq_getElem (by rw [hx]; decide)] at z3
  have e3 : Try.prog.cellsOf 3 = 1 := by kernel_rfl
  change DataW.trod enc Try.prog w base spare held n 3 (List.take (Try.prog.cellsOf 3) (List.drop 3 [c0, c1, c2, c3, c4, c5])) = some _ at z3
  rw [e3] at z3
  change DataW.trod enc Try.prog w base spare held n 3 [c3] = some _ at z3
  obtain ⟨a3, k3, g3⟩ := (opens_int Try.underlying3) _ _ _ _ _ _ _ _ _ z3
  have z4 := hf 4 _ rfl
  rw [List.getElem?_eq_getElem (by rw [hx]; decide)] at z4
  have e4 : Try.prog.cellsOf 59 = 1 := by kernel_rfl
  change DataW.trod enc Try.prog w base spare held n 59 (List.take (Try.prog.cellsOf 59) (List.drop 4 [c0, c1, c2, c3, c4, c5])) = some _ at z4
  rw [e4] at z4
  change DataW.trod enc Try.prog w base spare held n 59 [c4] = some _ at z4
  obtain ⟨a4, k4, g4⟩ := (opens_slice (e' := 104) Try.underlying59 opens104 (by kernel_rfl)) _ _ _ _ _ _ _ _ _ z4
  have z5 := hf 5 _ rfl
  rw [List.getElem?_eq_getElem (by rw [hx]; decide)] at z5
  have e5 : Try.prog.cellsOf 43 = 1 := by kernel_rfl
  change DataW.trod enc Try.prog w base spare held n 43 (List.take (Try.prog.cellsOf 43) (List.drop 5 [c0, c1, c2, c3, c4, c5])) = some _ at z5
  rw [e5] at z5
  change DataW.trod enc Try.prog w base spare held n 43 [c5] = some _ at z5
  obtain ⟨a5, k5, g5⟩ := (opens_slice (e' := 4) Try.underlying43 (opens_bool Try.underlying4) (by kernel_rfl)) _ _ _ _ _ _ _ _ _ z5
  exact ⟨⟨a0, a1, a2, a3, a4, a5⟩, ⟨[c0], [c1, c2, c3, c4, c5], rfl, k0, ⟨[c1], [c2, c3, c4, c5], rfl, k1, ⟨[c2], [c3, c4, c5], rfl, k2, ⟨[c3], [c4, c5], rfl, k3, ⟨[c4], [c5], rfl, k4, k5⟩⟩⟩⟩⟩, ⟨g0, g1, g2, g3, g4, g5⟩⟩
end Go.Proofs.Ytcifhhgoippmbaa.All
