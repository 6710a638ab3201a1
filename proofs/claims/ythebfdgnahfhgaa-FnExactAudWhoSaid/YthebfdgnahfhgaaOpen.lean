-- Written by the session's own program wip/allprint.py, which drives the kit's print; Lean checks it.
import Derived.Test.YthebfdgnahfhgaaAllx0
import Derived.WalkKit
import Derived.OpenShut
import Derived.ChangeArms
import Derived.Deep.Slices
import Derived.Deep.Fields
import Derived.KernelRfl
namespace Go.Proofs.Ythebfdgnahfhgaa.All
open Go.RowKit Go.Proofs.YthebfdgnahfhgaaW.PrintWords Go.Proofs.YthebfdgnahfhgaaW.PrintLast
set_option linter.unusedVariables false

/-- What a reading by 'trod' gives: the value, its cells as the kind tells them, and what is known of it. -/
def Opens {α : Type} (P : Program) (t : TypeId) (d : Kd α) (G : α → Prop) : Prop :=
  ∀ (H : Type) (enc : TypeId × Value → H) (w : World) (base : Nat) (spare : Nat → Bool) (held : Bool) (fuel : Nat) (cs : List Value) (x : DataW H × List MemPlace), DataW.trod enc P w base spare held fuel t cs = some x → ∃ a, d.K w a cs ∧ G a
theorem opens_int {P : Program} {t : TypeId} {k : IntKind} (ht : P.underlying t = some (.int k)) : Opens P t (Kd.int k) (fun a => (Lit.int k a).wf = true) := by
  intro H enc w base spare held fuel cs x h
  obtain ⟨n, rfl, _, hw⟩ := DataW.trod_int ht h
  exact ⟨n, rfl, hw⟩
theorem opens_bool {P : Program} {t : TypeId} (ht : P.underlying t = some .bool) : Opens P t Kd.bool (fun _ => True) := by
  intro H enc w base spare held fuel cs x h
  obtain ⟨n, rfl, _⟩ := DataW.trod_bool ht h
  exact ⟨n, rfl, trivial⟩
theorem opens_string {P : Program} {t : TypeId} (ht : P.underlying t = some .string) : Opens P t Kd.string (fun s => s.size ≤ maxLen) := by
  intro H enc w base spare held fuel cs x h
  obtain ⟨n, rfl, _, hw⟩ := DataW.trod_string ht h
  exact ⟨n, rfl, hw⟩
theorem opens_slice {α : Type} {P : Program} {t e : TypeId} {e' : Nat} {d : Kd α} {G : α → Prop} (ht : P.underlying t = some (.slice e)) (he : Opens P e d G) (hs : P.cellsOf e = d.sz) :
    Opens P t (Kd.slice e' d) (fun l => l.length ≤ maxLen ∧ ∀ z ∈ l, G z) := by
  intro H enc w base spare held fuel cs x h
  rcases DataW.trod_slice ht h with ⟨rfl, _⟩ | ⟨a, len, cap, elems, rest, n, _, rfl, _, hb, hl, hm, hlen, hel, _, _⟩
  · exact ⟨[], ⟨none, 0, rfl, Nat.le_refl _, ⟨rfl, by simp, fun h0 => absurd h0 (by simp)⟩⟩, by simp, by simp⟩
  · have hq : ∀ m, m ≤ len → ∃ ps : List α, ps.length = m ∧ ∀ (j : Nat) (p : α), ps[j]? = some p → (∃ c, c.length = d.sz ∧ d.K w p c ∧ ∀ (i : Nat) (u : Value), c[i]? = some u → w.cell? (a.add (j * d.sz + i)) = some u) ∧ G p := by
      intro m
      induction m with
      | zero => exact fun _ => ⟨[], rfl, fun j p hj => by simp at hj⟩
      | succ m ih =>
        intro hm1
        obtain ⟨ps, hps, hall⟩ := ih (by omega)
        have h1 := hel m (by omega)
        rw [List.getElem?_eq_getElem (by omega)] at h1
        obtain ⟨c, hc, htr⟩ := Option.bind_eq_some_iff.mp h1
        obtain ⟨p, hk, hg⟩ := he _ _ _ _ _ _ _ _ _ htr
        obtain ⟨_, hcl, hcell⟩ := World.cells?_some hc
        refine ⟨ps ++ [p], by simp [hps], fun j q hj => ?_⟩
        by_cases hjm : j < m
        · rw [List.getElem?_append_left (by omega)] at hj
          exact hall j q hj
        · by_cases hje : j = m
          · subst hje
            rw [List.getElem?_append_right (by omega), hps, Nat.sub_self] at hj
            obtain rfl : p = q := by simpa using hj
            refine ⟨⟨c, by rw [hcl, hs], hk, fun i u hu => ?_⟩, hg⟩
            have hi : i < P.cellsOf e := by rw [← hcl]; exact (List.getElem?_eq_some_iff.1 hu).1
            rw [← hs, ← Go.Deep.add_add, hcell i hi, hu]
          · rw [List.getElem?_eq_none (by simp [hps]; omega)] at hj
            cases hj
    obtain ⟨ps, hps, hall⟩ := hq len (Nat.le_refl _)
    refine ⟨ps, ⟨some a, cap, by rw [hps], by omega, ⟨rfl, by rw [hps]; unfold maxLen at hm; omega, fun _ => ⟨a, rfl, fun j p hj => (hall j p hj).1⟩⟩⟩, by rw [hps]; exact Nat.le_trans hl hm, fun z hz => ?_⟩
    obtain ⟨j, hj⟩ := List.getElem?_of_mem hz
    exact (hall j z hj).2

theorem list2 {α : Type} : ∀ {l : List α}, l.length = 2 → ∃ c0 c1, l = [c0, c1]
  | [c0, c1], _ => ⟨c0, c1, rfl⟩
theorem list6 {α : Type} : ∀ {l : List α}, l.length = 6 → ∃ c0 c1 c2 c3 c4 c5, l = [c0, c1, c2, c3, c4, c5]
  | [c0, c1, c2, c3, c4, c5], _ => ⟨c0, c1, c2, c3, c4, c5, rfl⟩
theorem list8 {α : Type} : ∀ {l : List α}, l.length = 8 → ∃ c0 c1 c2 c3 c4 c5 c6 c7, l = [c0, c1, c2, c3, c4, c5, c6, c7]
  | [c0, c1, c2, c3, c4, c5, c6, c7], _ => ⟨c0, c1, c2, c3, c4, c5, c6, c7, rfl⟩
theorem list9 {α : Type} : ∀ {l : List α}, l.length = 9 → ∃ c0 c1 c2 c3 c4 c5 c6 c7 c8, l = [c0, c1, c2, c3, c4, c5, c6, c7, c8]
  | [c0, c1, c2, c3, c4, c5, c6, c7, c8], _ => ⟨c0, c1, c2, c3, c4, c5, c6, c7, c8, rfl⟩
def G105 (x : S105) : Prop := ((Lit.int .i64 x.f0).wf = true) ∧ ((Lit.int .i64 x.f1).wf = true)
theorem opens105 : Opens Try.prog 105 k105 G105 := by
  intro H enc w base spare held fuel cs x h
  obtain ⟨xs, n, _, _, hl, hx, hf⟩ := DataW.trod_struct Try.underlying105 h
  obtain ⟨c0, c1, rfl⟩ := list2 (hl.trans (by kernel_rfl))
  have z0 := hf 0 _ rfl
  rw [List.getElem?_eq_getElem (by rw [hx]; decide)] at z0
  have e0 : Try.prog.cellsOf 3 = 1 := by kernel_rfl
  change DataW.trod enc Try.prog w base spare held n 3 (List.take (Try.prog.cellsOf 3) (List.drop 0 [c0, c1])) = some _ at z0
  rw [e0] at z0
  change DataW.trod enc Try.prog w base spare held n 3 [c0] = some _ at z0
  obtain ⟨a0, k0, g0⟩ := (opens_int Try.underlying3) _ _ _ _ _ _ _ _ _ z0
  have z1 := hf 1 _ rfl
  rw [List.getElem?_eq_getElem (by rw [hx]; decide)] at z1
  have e1 : Try.prog.cellsOf 3 = 1 := by kernel_rfl
  change DataW.trod enc Try.prog w base spare held n 3 (List.take (Try.prog.cellsOf 3) (List.drop 1 [c0, c1])) = some _ at z1
  rw [e1] at z1
  change DataW.trod enc Try.prog w base spare held n 3 [c1] = some _ at z1
  obtain ⟨a1, k1, g1⟩ := (opens_int Try.underlying3) _ _ _ _ _ _ _ _ _ z1
  exact ⟨⟨a0, a1⟩, ⟨[c0], [c1], rfl, k0, k1⟩, ⟨g0, g1⟩⟩
def G150 (x : S150) : Prop := ((Lit.int .i64 x.f0).wf = true) ∧ (G105 x.f1) ∧ (G105 x.f2) ∧ ((Lit.int .i64 x.f3).wf = true)
theorem opens150 : Opens Try.prog 150 k150 G150 := by
  intro H enc w base spare held fuel cs x h
  obtain ⟨xs, n, _, _, hl, hx, hf⟩ := DataW.trod_struct Try.underlying150 h
  obtain ⟨c0, c1, c2, c3, c4, c5, rfl⟩ := list6 (hl.trans (by kernel_rfl))
  have z0 := hf 0 _ rfl
  rw [List.getElem?_eq_getElem (by rw [hx]; decide)] at z0
  have e0 : Try.prog.cellsOf 3 = 1 := by kernel_rfl
  change DataW.trod enc Try.prog w base spare held n 3 (List.take (Try.prog.cellsOf 3) (List.drop 0 [c0, c1, c2, c3, c4, c5])) = some _ at z0
  rw [e0] at z0
  change DataW.trod enc Try.prog w base spare held n 3 [c0] = some _ at z0
  obtain ⟨a0, k0, g0⟩ := (opens_int Try.underlying3) _ _ _ _ _ _ _ _ _ z0
  have z1 := hf 1 _ rfl
  rw [List.getElem?_eq_getElem (by rw [hx]; decide)] at z1
  have e1 : Try.prog.cellsOf 105 = 2 := by kernel_rfl
  change DataW.trod enc Try.prog w base spare held n 105 (List.take (Try.prog.cellsOf 105) (List.drop 1 [c0, c1, c2, c3, c4, c5])) = some _ at z1
  rw [e1] at z1
  change DataW.trod enc Try.prog w base spare held n 105 [c1, c2] = some _ at z1
  obtain ⟨a1, k1, g1⟩ := opens105 _ _ _ _ _ _ _ _ _ z1
  have z2 := hf 2 _ rfl
  rw [List.getElem?_eq_getElem (by rw [hx]; decide)] at z2
  have e2 : Try.prog.cellsOf 105 = 2 := by kernel_rfl
  change DataW.trod enc Try.prog w base spare held n 105 (List.take (Try.prog.cellsOf 105) (List.drop 3 [c0, c1, c2, c3, c4, c5])) = some _ at z2
  rw [e2] at z2
  change DataW.trod enc Try.prog w base spare held n 105 [c3, c4] = some _ at z2
  obtain ⟨a2, k2, g2⟩ := opens105 _ _ _ _ _ _ _ _ _ z2
  have z3 := hf 3 _ rfl
  rw [List.getElem?_eq_getElem (by rw [hx]; decide)] at z3
  have e3 : Try.prog.cellsOf 3 = 1 := by kernel_rfl
  change DataW.trod enc Try.prog w base spare held n 3 (List.take (Try.prog.cellsOf 3) (List.drop 5 [c0, c1, c2, c3, c4, c5])) = some _ at z3
  rw [e3] at z3
  change DataW.trod enc Try.prog w base spare held n 3 [c5] = some _ at z3
  obtain ⟨a3, k3, g3⟩ := (opens_int Try.underlying3) _ _ _ _ _ _ _ _ _ z3
  exact ⟨⟨a0, a1, a2, a3⟩, ⟨[c0], [c1, c2, c3, c4, c5], rfl, k0, ⟨[c1, c2], [c3, c4, c5], rfl, k1, ⟨[c3, c4], [c5], rfl, k2, k3⟩⟩⟩, ⟨g0, g1, g2, g3⟩⟩
def G108 (x : S108) : Prop := ((Lit.int .i64 x.f0).wf = true) ∧ ((Lit.int .i64 x.f1).wf = true) ∧ ((Lit.int .i64 x.f2).wf = true) ∧ ((Lit.int .i64 x.f3).wf = true) ∧ ((Lit.int .i64 x.f4).wf = true) ∧ (G105 x.f5) ∧ (x.f6.length ≤ maxLen ∧ ∀ z_ ∈ x.f6, G150 z_)
theorem opens108 : Opens Try.prog 108 k108 G108 := by
  intro H enc w base spare held fuel cs x h
  obtain ⟨xs, n, _, _, hl, hx, hf⟩ := DataW.trod_struct Try.underlying108 h
  obtain ⟨c0, c1, c2, c3, c4, c5, c6, c7, rfl⟩ := list8 (hl.trans (by kernel_rfl))
  have z0 := hf 0 _ rfl
  rw [List.getElem?_eq_getElem (by rw [hx]; decide)] at z0
  have e0 : Try.prog.cellsOf 3 = 1 := by kernel_rfl
  change DataW.trod enc Try.prog w base spare held n 3 (List.take (Try.prog.cellsOf 3) (List.drop 0 [c0, c1, c2, c3, c4, c5, c6, c7])) = some _ at z0
  rw [e0] at z0
  change DataW.trod enc Try.prog w base spare held n 3 [c0] = some _ at z0
  obtain ⟨a0, k0, g0⟩ := (opens_int Try.underlying3) _ _ _ _ _ _ _ _ _ z0
  have z1 := hf 1 _ rfl
  rw [List.getElem?_eq_getElem (by rw [hx]; decide)] at z1
  have e1 : Try.prog.cellsOf 3 = 1 := by kernel_rfl
  change DataW.trod enc Try.prog w base spare held n 3 (List.take (Try.prog.cellsOf 3) (List.drop 1 [c0, c1, c2, c3, c4, c5, c6, c7])) = some _ at z1
  rw [e1] at z1
  change DataW.trod enc Try.prog w base spare held n 3 [c1] = some _ at z1
  obtain ⟨a1, k1, g1⟩ := (opens_int Try.underlying3) _ _ _ _ _ _ _ _ _ z1
  have z2 := hf 2 _ rfl
  rw [List.getElem?_eq_getElem (by rw [hx]; decide)] at z2
  have e2 : Try.prog.cellsOf 3 = 1 := by kernel_rfl
  change DataW.trod enc Try.prog w base spare held n 3 (List.take (Try.prog.cellsOf 3) (List.drop 2 [c0, c1, c2, c3, c4, c5, c6, c7])) = some _ at z2
  rw [e2] at z2
  change DataW.trod enc Try.prog w base spare held n 3 [c2] = some _ at z2
  obtain ⟨a2, k2, g2⟩ := (opens_int Try.underlying3) _ _ _ _ _ _ _ _ _ z2
  have z3 := hf 3 _ rfl
  rw [List.getElem?_eq_getElem (by rw [hx]; decide)] at z3
  have e3 : Try.prog.cellsOf 3 = 1 := by kernel_rfl
  change DataW.trod enc Try.prog w base spare held n 3 (List.take (Try.prog.cellsOf 3) (List.drop 3 [c0, c1, c2, c3, c4, c5, c6, c7])) = some _ at z3
  rw [e3] at z3
  change DataW.trod enc Try.prog w base spare held n 3 [c3] = some _ at z3
  obtain ⟨a3, k3, g3⟩ := (opens_int Try.underlying3) _ _ _ _ _ _ _ _ _ z3
  have z4 := hf 4 _ rfl
  rw [List.getElem?_eq_getElem (by rw [hx]; decide)] at z4
  have e4 : Try.prog.cellsOf 3 = 1 := by kernel_rfl
  change DataW.trod enc Try.prog w base spare held n 3 (List.take (Try.prog.cellsOf 3) (List.drop 4 [c0, c1, c2, c3, c4, c5, c6, c7])) = some _ at z4
  rw [e4] at z4
  change DataW.trod enc Try.prog w base spare held n 3 [c4] = some _ at z4
  obtain ⟨a4, k4, g4⟩ := (opens_int Try.underlying3) _ _ _ _ _ _ _ _ _ z4
  have z5 := hf 5 _ rfl
  rw [List.getElem?_eq_getElem (by rw [hx]; decide)] at z5
  have e5 : Try.prog.cellsOf 105 = 2 := by kernel_rfl
  change DataW.trod enc Try.prog w base spare held n 105 (List.take (Try.prog.cellsOf 105) (List.drop 5 [c0, c1, c2, c3, c4, c5, c6, c7])) = some _ at z5
  rw [e5] at z5
  change DataW.trod enc Try.prog w base spare held n 105 [c5, c6] = some _ at z5
  obtain ⟨a5, k5, g5⟩ := opens105 _ _ _ _ _ _ _ _ _ z5
  have z6 := hf 6 _ rfl
  rw [List.getElem?_eq_getElem (by rw [hx]; decide)] at z6
  have e6 : Try.prog.cellsOf 106 = 1 := by kernel_rfl
  change DataW.trod enc Try.prog w base spare held n 106 (List.take (Try.prog.cellsOf 106) (List.drop 7 [c0, c1, c2, c3, c4, c5, c6, c7])) = some _ at z6
  rw [e6] at z6
  change DataW.trod enc Try.prog w base spare held n 106 [c7] = some _ at z6
  obtain ⟨a6, k6, g6⟩ := (opens_slice (e' := 150) Try.underlying106 opens150 (by kernel_rfl)) _ _ _ _ _ _ _ _ _ z6
  exact ⟨⟨a0, a1, a2, a3, a4, a5, a6⟩, ⟨[c0], [c1, c2, c3, c4, c5, c6, c7], rfl, k0, ⟨[c1], [c2, c3, c4, c5, c6, c7], rfl, k1, ⟨[c2], [c3, c4, c5, c6, c7], rfl, k2, ⟨[c3], [c4, c5, c6, c7], rfl, k3, ⟨[c4], [c5, c6, c7], rfl, k4, ⟨[c5, c6], [c7], rfl, k5, k6⟩⟩⟩⟩⟩⟩, ⟨g0, g1, g2, g3, g4, g5, g6⟩⟩
def G110 (x : S110) : Prop := (G108 x.f0) ∧ ((Lit.int .i64 x.f1).wf = true)
theorem opens110 : Opens Try.prog 110 k110 G110 := by
  intro H enc w base spare held fuel cs x h
  obtain ⟨xs, n, _, _, hl, hx, hf⟩ := DataW.trod_struct Try.underlying110 h
  obtain ⟨c0, c1, c2, c3, c4, c5, c6, c7, c8, rfl⟩ := list9 (hl.trans (by kernel_rfl))
  have z0 := hf 0 _ rfl
  rw [List.getElem?_eq_getElem (by rw [hx]; decide)] at z0
  have e0 : Try.prog.cellsOf 108 = 8 := by kernel_rfl
  change DataW.trod enc Try.prog w base spare held n 108 (List.take (Try.prog.cellsOf 108) (List.drop 0 [c0, c1, c2, c3, c4, c5, c6, c7, c8])) = some _ at z0
  rw [e0] at z0
  change DataW.trod enc Try.prog w base spare held n 108 [c0, c1, c2, c3, c4, c5, c6, c7] = some _ at z0
  obtain ⟨a0, k0, g0⟩ := opens108 _ _ _ _ _ _ _ _ _ z0
  have z1 := hf 1 _ rfl
  rw [List.getElem?_eq_getElem (by rw [hx]; decide)] at z1
  have e1 : Try.prog.cellsOf 3 = 1 := by kernel_rfl
  change DataW.trod enc Try.prog w base spare held n 3 (List.take (Try.prog.cellsOf 3) (List.drop 8 [c0, c1, c2, c3, c4, c5, c6, c7, c8])) = some _ at z1
  rw [e1] at z1
  change DataW.trod enc Try.prog w base spare held n 3 [c8] = some _ at z1
  obtain ⟨a1, k1, g1⟩ := (opens_int Try.underlying3) _ _ _ _ _ _ _ _ _ z1
  exact ⟨⟨a0, a1⟩, ⟨[c0, c1, c2, c3, c4, c5, c6, c7], [c8], rfl, k0, k1⟩, ⟨g0, g1⟩⟩
end Go.Proofs.Ythebfdgnahfhgaa.All
