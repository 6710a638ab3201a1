-- Written by the session's own program wip/allprint.py, which drives the kit's print; Lean checks it.
import Derived.Test.YtojgpnobbnihdaaAllx0
import Derived.WalkKit
import Derived.OpenShut
import Derived.ChangeArms
import Derived.Deep.Slices
import Derived.Deep.Fields
import Derived.KernelRfl
namespace Go.Proofs.Ytojgpnobbnihdaa.All
open Go.RowKit Go.Proofs.YtojgpnobbnihdaaW.PrintWords Go.Proofs.YtojgpnobbnihdaaW.PrintLast
set_option linter.unusedVariables false

/-- What a reading by 'trod' gives: the value, its cells as the kind tells them, and what is known of it. -/
def Opens {α : Type} (P : Program) (t : TypeId) (d : Kd α) (G : α → Prop) : Prop :=
  ∀ (H : Type) (enc : TypeId × Value → H) (w : World) (base : Nat) (spare : Nat → Bool) (held : Bool) (fuel : Nat) (cs : List Value) (x : DataW H × List MemPlace), DataW.trod enc P w base spare held fuel t cs = some x → ∃ a, d.K w a cs ∧ G a
theorem opens_int {P : Program} {t : TypeId} {k : IntKind} (ht : P.underlying t = some (.int k)) : Opens P t (Kd.int k) (fun a => (Lit.int k a).wf = true) := by
  intro H enc w base spare held fuel cs x h
  obtain ⟨n, rfl, _, hw⟩ := DataW.trod_int ht h
  exact ⟨n, rfl, hw⟩
theorem opens_bool {P : Program} {t : TypeId} (ht : P.underlying t = some .bool) : Opens P t Kd.bool (fun _ => True) := by
  intro H enc w base spare held fuel cs x h
  obtain ⟨n, rfl, _⟩ := DataW.trod_bool ht h
  exact ⟨n, rfl, trivial⟩
theorem opens_string {P : Program} {t : TypeId} (ht : P.underlying t = some .string) : Opens P t Kd.string (fun s => s.size ≤ maxLen) := by
  intro H enc w base spare held fuel cs x h
  obtain ⟨n, rfl, _, hw⟩ := DataW.trod_string ht h
  exact ⟨n, rfl, hw⟩
theorem opens_slice {α : Type} {P : Program} {t e : TypeId} {e' : Nat} {d : Kd α} {G : α → Prop} (ht : P.underlying t = some (.slice e)) (he : Opens P e d G) (hs : P.cellsOf e = d.sz) :
    Opens P t (Kd.slice e' d) (fun l => l.length ≤ maxLen ∧ ∀ z ∈ l, G z) := by
  intro H enc w base spare held fuel cs x h
  rcases DataW.trod_slice ht h with ⟨rfl, _⟩ | ⟨a, len, cap, elems, rest, n, _, rfl, _, hb, hl, hm, hlen, hel, _, _⟩
  · exact ⟨[], ⟨none, 0, rfl, Nat.le_refl _, ⟨rfl, by simp, fun h0 => absurd h0 (by simp)⟩⟩, by simp, by simp⟩
  · have hq : ∀ m, m ≤ len → ∃ ps : List α, ps.length = m ∧ ∀ (j : Nat) (p : α), ps[j]? = some p → (∃ c, c.length = d.sz ∧ d.K w p c ∧ ∀ (i : Nat) (u : Value), c[i]? = some u → w.cell? (a.add (j * d.sz + i)) = some u) ∧ G p := by
      intro m
      induction m with
      | zero => exact fun _ => ⟨[], rfl, fun j p hj => by simp at hj⟩
      | succ m ih =>
        intro hm1
        obtain ⟨ps, hps, hall⟩ := ih (by omega)
        have h1 := hel m (by omega)
        rw [List.getElem?_eq_getElem (by omega)] at h1
        obtain ⟨c, hc, htr⟩ := Option.bind_eq_some_iff.mp h1
        obtain ⟨p, hk, hg⟩ := he _ _ _ _ _ _ _ _ _ htr
        obtain ⟨_, hcl, hcell⟩ := World.cells?_some hc
        refine ⟨ps ++ [p], by simp [hps], fun j q hj => ?_⟩
        by_cases hjm : j < m
        · rw [List.getElem?_append_left (by omega)] at hj
          exact hall j q hj
        · by_cases hje : j = m
          · subst hje
            rw [List.getElem?_append_right (by omega), hps, Nat.sub_self] at hj
            obtain rfl : p = q := by simpa using hj
            refine ⟨⟨c, by rw [hcl, hs], hk, fun i u hu => ?_⟩, hg⟩
            have hi : i < P.cellsOf e := by rw [← hcl]; exact (List.getElem?_eq_some_iff.1 hu).1
            rw [← hs, ← Go.Deep.add_add, hcell i hi, hu]
          · rw [List.getElem?_eq_none (by simp [hps]; omega)] at hj
            cases hj
    obtain ⟨ps, hps, hall⟩ := hq len (Nat.le_refl _)
    refine ⟨ps, ⟨some a, cap, by rw [hps], by omega, ⟨rfl, by rw [hps]; unfold maxLen at hm; omega, fun _ => ⟨a, rfl, fun j p hj => (hall j p hj).1⟩⟩⟩, by rw [hps]; exact Nat.le_trans hl hm, fun z hz => ?_⟩
    obtain ⟨j, hj⟩ := List.getElem?_of_mem hz
    exact (hall j z hj).2

theorem list5 {α : Type} : ∀ {l : List α}, l.length = 5 → ∃ c0 c1 c2 c3 c4, l = [c0, c1, c2, c3, c4]
  | [c0, c1, c2, c3, c4], _ => ⟨c0, c1, c2, c3, c4, rfl⟩
end Go.Proofs.Ytojgpnobbnihdaa.All
