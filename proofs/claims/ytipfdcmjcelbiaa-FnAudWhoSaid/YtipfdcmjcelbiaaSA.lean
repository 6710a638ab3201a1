/- The typed machine: abstract values, rows by their types, the programs it reads, and each of its steps is one of the model's; no conditions. -/
import Derived.Test.YtipfdcmjcelbiaaProg
import Derived.Orders
import Derived.KernelRfl
import Derived.RowKit
import Derived.Laws.Entries
import Derived.Laws.Cells
import Derived.Laws.CopyRow
import Derived.Deep.AppendSrc
import Derived.Test.YtipfdcmjcelbiaaWEqStruct
import Derived.Laws.World
import Derived.Deep.Upon
section
/-! ## S0: The typed reading of the machine: abstract values, blocks of rows by their types, and what stays of them; plain definitions and lemmas, no conditions. -/
set_option linter.unusedVariables false
set_option linter.unusedSimpArgs false
namespace Go.Proofs.Ytipfdcmjcelbiaa.Safe
open Go

/-! ### types of cells, and how a row of a type is laid out -/
inductive CT where
  | int | bint | pint | byte | bool | str | sl (e : Nat)
def lay : Nat → List CT
  | 3 => [.bint]
  | 4 => [.bool]
  | 5 => [.byte]
  | 9 => [.str]
  | 27 => [.int, .int, .sl 52, .int, .sl 41, .sl 4]
  | 41 => [.int, .int, .int]
  | 47 => [.bint, .pint]
  | 49 => [.bint, .bint, .bint, .bint, .bint, .bint]
  | 52 => [.int, .int, .int, .int, .int, .int, .int, .int, .int, .int, .sl 47]
  | 57 => [.sl 3]
  | 63 => [.int, .int, .int, .int, .int, .int, .int, .sl 49]
  | 65 => [.int, .int, .int, .int, .int, .int, .int, .sl 49, .int]
  | 125 => [.sl 49, .int]
  | _ => []
def esz (e : Nat) : Nat := (lay e).length

/-- What the walk knows of a value. -/
inductive AV where
  | any | undef | int (x : Int) | byte (x : Int) | bool (b : Bool) | str (n : Nat) | sl (e n : Nat)
  | agg (l : List AV) | tup (l : List AV) | ptr (b v o : Nat) | row (e o : Nat) | rd | osl (b v n : Nat) | optr (b v n : Nat) | lit (v : Value)

def F2 {α β : Type} (R : α → β → Prop) : List α → List β → Prop
  | [], [] => True
  | a :: xs, b :: ys => R a b ∧ F2 R xs ys
  | _, _ => False
theorem F2.length {α β : Type} {R : α → β → Prop} : ∀ {xs : List α} {ys : List β}, F2 R xs ys → xs.length = ys.length
  | [], [], _ => rfl
  | _ :: _, _ :: _, h => by rw [List.length_cons, List.length_cons, F2.length h.2]
  | [], _ :: _, h => h.elim
  | _ :: _, [], h => h.elim
theorem F2.imp {α β : Type} {R R' : α → β → Prop} (hr : ∀ a b, R a b → R' a b) : ∀ {xs : List α} {ys : List β}, F2 R xs ys → F2 R' xs ys
  | [], [], _ => trivial
  | _ :: _, _ :: _, h => ⟨hr _ _ h.1, F2.imp hr h.2⟩
  | [], _ :: _, h => h.elim
  | _ :: _, [], h => h.elim
theorem F2.append {α β : Type} {R : α → β → Prop} : ∀ {xs : List α} {ys : List β} {cs : List α} {ds : List β}, F2 R xs ys → F2 R cs ds → F2 R (xs ++ cs) (ys ++ ds)
  | [], [], _, _, _, h => h
  | _ :: _, _ :: _, _, _, h, k => ⟨h.1, F2.append h.2 k⟩
  | [], _ :: _, _, _, h, _ => h.elim
  | _ :: _, [], _, _, h, _ => h.elim
theorem F2.take {α β : Type} {R : α → β → Prop} : ∀ (n : Nat) {xs : List α} {ys : List β}, F2 R xs ys → F2 R (xs.take n) (ys.take n)
  | 0, _, _, _ => by simp [F2]
  | n + 1, [], [], _ => by simp [F2]
  | n + 1, _ :: _, _ :: _, h => ⟨h.1, F2.take n h.2⟩
  | _ + 1, [], _ :: _, h => h.elim
  | _ + 1, _ :: _, [], h => h.elim
theorem F2.drop {α β : Type} {R : α → β → Prop} : ∀ (n : Nat) {xs : List α} {ys : List β}, F2 R xs ys → F2 R (xs.drop n) (ys.drop n)
  | 0, _, _, h => h
  | n + 1, [], [], _ => by simp [F2]
  | n + 1, _ :: _, _ :: _, h => F2.drop n h.2
  | _ + 1, [], _ :: _, h => h.elim
  | _ + 1, _ :: _, [], h => h.elim
theorem F2.get {α β : Type} {R : α → β → Prop} : ∀ {xs : List α} {ys : List β}, F2 R xs ys → ∀ {i : Nat} {a : α}, xs[i]? = some a → ∃ b, ys[i]? = some b ∧ R a b
  | [], [], _, i, a, h => by simp at h
  | x :: _, y :: _, h, 0, a, e => by
    simp only [List.getElem?_cons_zero, Option.some.injEq] at e
    subst e
    exact ⟨y, by simp, h.1⟩
  | _ :: xs, _ :: ys, h, i + 1, a, e => by
    simp only [List.getElem?_cons_succ] at e ⊢
    exact F2.get h.2 e
  | [], _ :: _, h, _, _, _ => h.elim
  | _ :: _, [], h, _, _, _ => h.elim
theorem F2.map {α β γ : Type} {R : α → β → Prop} {f : γ → α} {g : γ → β} : ∀ (l : List γ), (∀ x ∈ l, R (f x) (g x)) → F2 R (l.map f) (l.map g)
  | [], _ => by simp [F2]
  | x :: l, h => ⟨h x List.mem_cons_self, F2.map l (fun y hy => h y (List.mem_cons_of_mem _ hy))⟩

/-! ### blocks -/
/-- Block g is a row of m cells of type e. -/
def Bk (w : World) (g e m : Nat) : Prop := ∃ cells : Array Value, w.heap[g]? = some (.cells cells e (0, 0)) ∧ cells.size = m
section
variable (S : Nat → Prop) (N : Nat) (w : World)
def SLT (e n : Nat) (A : Option Addr) (c : Nat) : Prop :=
  n ≤ N ∧ n ≤ c ∧ 0 < esz e ∧ ((A = none ∧ c = 0) ∨ ∃ g q m, A = some ⟨g, q * esz e, none⟩ ∧ S g ∧ Bk w g e (m * esz e) ∧ q + c ≤ m)
def CV : CT → Value → Prop
  | .int, v => ∃ x, v = .int .i64 x
  | .bint, v => ∃ x, (-16777216 ≤ x ∧ x ≤ 16777216) ∧ v = .int .i64 x
  | .pint, v => ∃ x, (-1 ≤ x ∧ x ≤ 4) ∧ v = .int .i64 x
  | .byte, v => ∃ x, v = .int .u8 x
  | .bool, v => ∃ b, v = .bool b
  | .str, v => ∃ s : ByteArray, s.size ≤ 1000 ∧ v = .string s
  | .sl e, v => ∃ A n c, v = .slice A n c ∧ SLT S N w e n A c
def Cod (B : Nat → Prop) (A : Option Addr) (n : Nat) : Prop :=
  n ≤ 2000 ∧ (n = 0 ∨ ∃ ad : Addr, A = some ad ∧ B ad.block ∧ ad.block < w.heap.size ∧ ∀ i, i < n → ∃ b : Int, w.cell? (ad.add i) = some (.int .u8 b) ∧ 0 ≤ b ∧ b < 256)
def RdB (B : Nat → Prop) (k : Nat) : Prop := ∃ A n c p, w.heap[k]? = some (.cells #[.slice A n c, .int .i64 p] 81 (0, 0)) ∧ 0 ≤ p ∧ p ≤ (N : Int) ∧ Cod w B A n
/-- Cells xs a row of type e has them. -/
def Fit (e : Nat) (cells : Array Value) : Prop := 0 < esz e ∧ (∃ m, cells.size = m * esz e) ∧ ∀ i, i < cells.size → ∃ v t, cells[i]? = some v ∧ (lay e)[i % esz e]? = some t ∧ CV S N w t v
def WTD (B : Nat → Prop) : Prop := ∀ k, S k → ¬ B k ∧ ((∃ e cells, w.heap[k]? = some (.cells cells e (0, 0)) ∧ Fit S N w e cells) ∨ RdB N w B k)
def SV : AV → Value → Prop
  | .any, _ => True
  | .undef, v => v = Go.undef
  | .int x, v => v = .int .i64 x
  | .byte x, v => v = .int .u8 x
  | .bool b, v => v = .bool b
  | .str n, v => ∃ s : ByteArray, v = .string s ∧ s.size = n
  | .sl e n, v => ∃ A c, v = .slice A n c ∧ SLT S N w e n A c
  | .rd, v => ∃ g, v = .pointer (some ⟨g, 0, none⟩) ∧ S g ∧ Bk w g 81 2
  | .lit u, v => v = u ∧ ((∃ A n c, u = .slice A n c) ∨ ∃ p, u = .pointer p)
  | _, _ => False
def V1 : AV → Value → Prop
  | .agg l, v => ∃ cs : List Value, v = .agg cs.toArray ∧ F2 (SV S N w) l cs
  | x, v => SV S N w x v
def V2 : AV → Value → Prop
  | .tup l, v => ∃ cs : List Value, v = .tuple cs.toArray ∧ F2 (V1 S N w) l cs
  | x, v => V1 S N w x v
end
/-- The state of a walk: variables, blocks of its own (the version of each), and the bound of all lengths. -/
structure AS where
  T : Nat → AV
  M : Nat → Nat × List AV
  N : Nat
def V3 (M : Nat → Nat × List AV) (L : Nat → Nat) (S : Nat → Prop) (N : Nat) (w : World) : AV → Value → Prop
  | .ptr b v o, u => v ≤ (M b).1 ∧ ∃ g, u = .pointer (some ⟨g, o, none⟩) ∧ (v = (M b).1 → g = L b)
  | .osl b v n, u => v ≤ (M b).1 ∧ ∃ g, (∃ c, u = .slice (some ⟨g, 0, none⟩) n c) ∧ (v = (M b).1 → g = L b)
  | .optr b v n, u => v ≤ (M b).1 ∧ ∃ g, (∃ o, u = .pointer (some ⟨g, o, none⟩) ∧ o < n) ∧ (v = (M b).1 → g = L b)
  | .row e o, u => ∃ g q m, u = .pointer (some ⟨g, q, none⟩) ∧ S g ∧ Bk w g e (m * esz e) ∧ q < m * esz e ∧ q % esz e = o
  | x, u => V2 S N w x u

/-! ### what grows -/
/-- Rows are there still, and there may be more; lengths may be greater. -/
structure Gro (S : Nat → Prop) (N : Nat) (w : World) (S' : Nat → Prop) (N' : Nat) (w' : World) : Prop where
  s : ∀ k, S k → S' k
  n : N ≤ N'
  b : ∀ k e m, S k → Bk w k e m → Bk w' k e m
section
variable {S S' : Nat → Prop} {N N' : Nat} {w w' : World} (h : Gro S N w S' N' w')
include h
theorem SLT.gro {e n : Nat} {A : Option Addr} {c : Nat} (k : SLT S N w e n A c) : SLT S' N' w' e n A c := by
  obtain ⟨h1, h2, h3, h4⟩ := k
  refine ⟨Nat.le_trans h1 h.n, h2, h3, h4.imp id ?_⟩
  rintro ⟨g, q, m, e1, e2, e3, e4⟩
  exact ⟨g, q, m, e1, h.s g e2, h.b g _ _ e2 e3, e4⟩
theorem CV.gro {t : CT} {v : Value} (k : CV S N w t v) : CV S' N' w' t v := by
  cases t with
  | int => exact k
  | bint => exact k
  | pint => exact k
  | byte => exact k
  | bool => exact k
  | str => exact k
  | sl e =>
    obtain ⟨A, n, c, e1, e2⟩ := k
    exact ⟨A, n, c, e1, SLT.gro h e2⟩
theorem Fit.gro {e : Nat} {cells : Array Value} (k : Fit S N w e cells) : Fit S' N' w' e cells := by
  obtain ⟨h1, h2, h3⟩ := k
  refine ⟨h1, h2, fun i hi => ?_⟩
  obtain ⟨v, t, e1, e2, e3⟩ := h3 i hi
  exact ⟨v, t, e1, e2, CV.gro h e3⟩
theorem SV.gro {x : AV} {v : Value} (k : SV S N w x v) : SV S' N' w' x v := by
  cases x with
  | sl e n =>
    obtain ⟨A, c, e1, e2⟩ := k
    exact ⟨A, c, e1, SLT.gro h e2⟩
  | rd =>
    obtain ⟨g, e1, e2, e3⟩ := k
    exact ⟨g, e1, h.s g e2, h.b g _ _ e2 e3⟩
  | _ => exact k
theorem V1.gro {x : AV} {v : Value} (k : V1 S N w x v) : V1 S' N' w' x v := by
  cases x with
  | agg l =>
    obtain ⟨cs, e1, e2⟩ := k
    exact ⟨cs, e1, F2.imp (fun _ _ => SV.gro h) e2⟩
  | _ => simp only [V1] at k ⊢; exact SV.gro h k
theorem V2.gro {x : AV} {v : Value} (k : V2 S N w x v) : V2 S' N' w' x v := by
  cases x with
  | tup l =>
    obtain ⟨cs, e1, e2⟩ := k
    exact ⟨cs, e1, F2.imp (fun _ _ => V1.gro h) e2⟩
  | _ => simp only [V2] at k ⊢; exact V1.gro h k
theorem V3.gro {M : Nat → Nat × List AV} {L : Nat → Nat} {x : AV} {v : Value} (k : V3 M L S N w x v) : V3 M L S' N' w' x v := by
  cases x with
  | ptr b v o => exact k
  | osl b v n => exact k
  | optr b v n => exact k
  | row e o =>
    obtain ⟨g, q, m, e1, e2, e3, e4⟩ := k
    exact ⟨g, q, m, e1, h.s g e2, h.b g _ _ e2 e3, e4⟩
  | _ => simp only [V3] at k ⊢; exact V2.gro h k
end
theorem Gro.refl (S : Nat → Prop) (N : Nat) (w : World) : Gro S N w S N w := ⟨fun _ h => h, Nat.le_refl _, fun _ _ _ _ h => h⟩
theorem Gro.trans {S S' S'' : Nat → Prop} {N N' N'' : Nat} {w w' w'' : World} (h : Gro S N w S' N' w') (k : Gro S' N' w' S'' N'' w'') : Gro S N w S'' N'' w'' :=
  ⟨fun i hi => k.s i (h.s i hi), Nat.le_trans h.n k.n, fun i e m hi hb => k.b i e m (h.s i hi) (h.b i e m hi hb)⟩
theorem Bk.lt {w : World} {g e m : Nat} (h : Bk w g e m) : g < w.heap.size := by
  obtain ⟨c, hc, _⟩ := h
  rcases Nat.lt_or_ge g w.heap.size with hl | hl
  · exact hl
  · rw [Array.getElem?_eq_none hl] at hc
    cases hc
theorem cellSame {w w' : World} {a : Addr} (h : w'.heap[a.block]? = w.heap[a.block]?) : w'.cell? a = w.cell? a := by simp [World.cell?, h]
theorem WTD.bk {S : Nat → Prop} {N : Nat} {B : Nat → Prop} {w : World} (h : WTD S N w B) {k : Nat} (hk : S k) : ∃ e m, Bk w k e m := by
  rcases (h k hk).2 with ⟨e, cells, hc, _⟩ | ⟨A, n, c, p, hc, _⟩
  · exact ⟨e, _, cells, hc, rfl⟩
  · exact ⟨81, _, _, hc, rfl⟩
theorem WTD.lt {S : Nat → Prop} {N : Nat} {B : Nat → Prop} {w : World} (h : WTD S N w B) {k : Nat} (hk : S k) : k < w.heap.size := by
  obtain ⟨e, m, hb⟩ := h.bk hk
  exact hb.lt
theorem add_block (ad : Addr) (i : Nat) : (ad.add i).block = ad.block := by
  unfold Addr.add
  split <;> rfl
theorem Cod.gro {w w' : World} {A : Option Addr} {n : Nat} {B : Nat → Prop} (h : Cod w B A n) (hz : w.heap.size ≤ w'.heap.size) (hh : ∀ k, B k → k < w.heap.size → w'.heap[k]? = w.heap[k]?) : Cod w' B A n := by
  obtain ⟨h1, h2⟩ := h
  refine ⟨h1, h2.imp id ?_⟩
  rintro ⟨ad, e1, e2, e3, e4⟩
  refine ⟨ad, e1, e2, Nat.lt_of_lt_of_le e3 hz, fun i hi => ?_⟩
  obtain ⟨b, hb, hr⟩ := e4 i hi
  exact ⟨b, (cellSame (by rw [add_block]; exact hh _ e2 e3)).trans hb, hr⟩
/-- What a stretch of the walk does to the world outside: the rows of S may be written, all else stays. -/
structure Out (S : Nat → Prop) (w : World) (S' : Nat → Prop) (w' : World) : Prop where
  s : ∀ k, S k → S' k
  new : ∀ k, S' k → S k ∨ w.heap.size ≤ k
  size : w.heap.size ≤ w'.heap.size
  keep : ∀ k, k < w.heap.size → ¬ S k → w'.heap[k]? = w.heap[k]?
  b : ∀ k e m, S k → Bk w k e m → Bk w' k e m
  os : w'.os = w.os
  tape : w'.tape = w.tape
  output : w'.output = w.output
theorem Out.refl (S : Nat → Prop) (w : World) : Out S w S w := ⟨fun _ h => h, fun _ h => .inl h, Nat.le_refl _, fun _ _ _ => rfl, fun _ _ _ _ h => h, rfl, rfl, rfl⟩
theorem Out.trans {S S' S'' : Nat → Prop} {w w' w'' : World} (h : Out S w S' w') (k : Out S' w' S'' w'') : Out S w S'' w'' where
  s := fun i hi => k.s i (h.s i hi)
  new := fun i hi => (k.new i hi).elim (fun h2 => h.new i h2) (fun h2 => .inr (Nat.le_trans h.size h2))
  size := Nat.le_trans h.size k.size
  keep := fun i hi hn => (k.keep i (Nat.lt_of_lt_of_le hi h.size) (fun hs => (h.new i hs).elim hn (fun h2 => by omega))).trans (h.keep i hi hn)
  b := fun i e m hi hb => k.b i e m (h.s i hi) (h.b i e m hi hb)
  os := k.os.trans h.os
  tape := k.tape.trans h.tape
  output := k.output.trans h.output
theorem Out.gro {S S' : Nat → Prop} {w w' : World} (h : Out S w S' w') {N N' : Nat} (hn : N ≤ N') : Gro S N w S' N' w' := ⟨h.s, hn, h.b⟩
theorem Out.notS {S S' : Nat → Prop} {w w' : World} (h : Out S w S' w') {k : Nat} (hk : k < w.heap.size) (hn : ¬ S k) : ¬ S' k := fun hs => (h.new k hs).elim hn (fun h2 => by omega)
/-- Where a run starts: the rows that are typed there, their bound, and the world. All else that lies there stays as it is. -/
structure Base where
  S : Nat → Prop
  N : Nat
  w : World
def Base.D (B : Base) (k : Nat) : Prop := k < B.w.heap.size ∧ ¬ B.S k
abbrev WT (S : Nat → Prop) (N : Nat) (w : World) (B : Base) : Prop := WTD S N w B.D
structure Base.P (B : Base) (S : Nat → Prop) (N : Nat) (w : World) : Prop where
  out : Out B.S B.w S w
  n : B.N ≤ N
theorem Base.P.to {B : Base} {S S' : Nat → Prop} {N N' : Nat} {w w' : World} (h : B.P S N w) (k : Out S w S' w') (hn : N ≤ N') : B.P S' N' w' := ⟨h.out.trans k, Nat.le_trans h.n hn⟩
theorem Base.P.lt {B : Base} {S : Nat → Prop} {N : Nat} {w : World} (h : B.P S N w) {k : Nat} (hk : B.D k) : k < w.heap.size := Nat.lt_of_lt_of_le hk.1 h.out.size
theorem Base.P.keep {B : Base} {S : Nat → Prop} {N : Nat} {w : World} (h : B.P S N w) {k : Nat} (hk : B.D k) : w.heap[k]? = B.w.heap[k]? := h.out.keep k hk.1 hk.2
theorem Base.P.notS {B : Base} {S : Nat → Prop} {N : Nat} {w : World} (h : B.P S N w) {k : Nat} (hk : B.D k) : ¬ S k := h.out.notS hk.1 hk.2
theorem Base.P.new {B : Base} {S : Nat → Prop} {N : Nat} {w : World} (h : B.P S N w) {k : Nat} (hk : w.heap.size ≤ k) : ¬ B.D k := fun hd => Nat.lt_irrefl _ (Nat.lt_of_lt_of_le (h.lt hd) hk)
end Go.Proofs.Ytipfdcmjcelbiaa.Safe
end

section
/-! ## S1: The typed machine: its programs, what each operation needs and gives, and how a program of the model is read as one of it; definitions alone, no conditions. -/
set_option linter.unusedVariables false
namespace Go.Proofs.Ytipfdcmjcelbiaa.Safe
open Go Go.RowKit

inductive X where
  | t (n : Nat) | c (v : AV)
inductive AOp where
  | mv (x : X)
  | pick (c a b : X)
  | new (z : List AV)
  | box (x : X)
  | build (z : List AV) (ps : List (Nat × Nat × X))
  | bsl (e : Nat) (ps : List X)
  | ld (n : Nat) (ag fl : Bool) (al : List Nat) (x : X)
  | st (n : Nat) (x v : X)
  | fa (d : Nat) (x : X)
  | ia (e : Nat) (x i : X)
  | bin (op : BinOp) (t : Nat) (x y : X)
  | un (op : UnOp) (x : X)
  | cvt (x : X)
  | ext (k : Nat) (x : X)
  | fld (off n : Nat) (ag : Bool) (x : X)
  | slc (e : Nat) (x : X) (lo hi : Option X)
  | len (st : Bool) (x : X)
  | app (e : Nat) (x y : X)
  | call (f : Nat) (ps : List X)
  | idx (x i : X)
  | tab (ps : List X)
structure AOper where
  d : Option Nat
  g : Option (Nat × Bool)
  o : AOp
inductive ACode where
  | skip
  | ops (l : List AOper)
  | seq (a b : ACode)
  | cond (c : X) (a b : ACode)
  | blk (id : Nat) (c : ACode)
  | loop (c : ACode)
  | exit (id : Nat)
  | ret
/-- What a function needs of its arguments (and of the bound), and what it gives. -/
structure Spec where
  pre : List AV → Nat → Prop
  post : List AV → Nat → AV → Nat → Prop
  ne : ∀ l N, pre l N → ∃ r N', N ≤ N' ∧ post l N r N'
/-- What a run leans on: the contracts of functions, and what is known of what lies there from the start. -/
structure Ctx where
  f : Nat → Option Spec
  m : Addr → Nat → Option (List AV)
inductive Den where
  | bad
  | ne (safe : Prop) (res : AV → Prop) (mu : Option (Nat × Nat × List AV))
  | ev (safe : Prop) (res : AV → Nat → Prop)

def LIM : Nat := 1099511627776
def upd {α : Type} (T : Nat → α) (i : Nat) (v : α) : Nat → α := fun j => if j = i then v else T j
def ev (T : Nat → AV) : X → AV
  | .t n => T n
  | .c v => v
def cellsA : AV → Option (List AV)
  | .agg l => some l
  | .int x => some [.int x]
  | .byte x => some [.byte x]
  | .bool b => some [.bool b]
  | .str n => some [.str n]
  | .sl e n => some [.sl e n]
  | .lit v => some [.lit v]
  | _ => none
/-- Cells that may stand where the row's layout says so. -/
def cfm : List CT → List AV → Prop
  | [], [] => True
  | .int :: r, .int _ :: l => cfm r l
  | .bint :: r, .int x :: l => (-16777216 ≤ x ∧ x ≤ 16777216) ∧ cfm r l
  | .pint :: r, .int x :: l => (-1 ≤ x ∧ x ≤ 4) ∧ cfm r l
  | .byte :: r, .byte _ :: l => cfm r l
  | .bool :: r, .bool _ :: l => cfm r l
  | .str :: r, .str n :: l => n ≤ 1000 ∧ cfm r l
  | .sl e :: r, .sl e' _ :: l => e = e' ∧ cfm r l
  | _, _ => False
/-- What a load of such cells may give. -/
def gen (N : Nat) : List CT → List AV → Prop
  | [], l => l = []
  | .int :: r, l => ∃ x l', l = .int x :: l' ∧ gen N r l'
  | .bint :: r, l => ∃ x l', (-16777216 ≤ x ∧ x ≤ 16777216) ∧ l = .int x :: l' ∧ gen N r l'
  | .pint :: r, l => ∃ x l', (-1 ≤ x ∧ x ≤ 4) ∧ l = .int x :: l' ∧ gen N r l'
  | .byte :: r, l => ∃ x l', l = .byte x :: l' ∧ gen N r l'
  | .bool :: r, l => ∃ x l', l = .bool x :: l' ∧ gen N r l'
  | .str :: r, l => ∃ x l', x ≤ 1000 ∧ l = .str x :: l' ∧ gen N r l'
  | .sl e :: r, l => ∃ n l', n ≤ N ∧ l = .sl e n :: l' ∧ gen N r l'
def nosl : List CT → Bool
  | [] => true
  | .sl _ :: _ => false
  | _ :: r => nosl r
def mk : Bool → List AV → AV
  | true, l => .agg l
  | false, a :: _ => a
  | false, [] => .any
def fillA (T : Nat → AV) (z : List AV) : List (Nat × Nat × X) → Option (List AV)
  | [] => some z
  | (off, n, x) :: r =>
    match cellsA (ev T x) with
    | some c => if c.length = n ∧ off + n ≤ z.length then fillA T (z.take off ++ c ++ z.drop (off + n)) r else none
    | none => none
def allC (T : Nat → AV) (e : Nat) : List X → Prop
  | [] => True
  | x :: r => (match cellsA (ev T x) with | some c => cfm (lay e) c | none => False) ∧ allC T e r
def tabL (T : Nat → AV) : List X → Option (List AV)
  | [] => some []
  | x :: r => match ev T x, tabL T r with | .int k, some l => some (.int k :: l) | _, _ => none
def scls : List AV → Bool
  | [] => true
  | .int _ :: r => scls r
  | .byte _ :: r => scls r
  | .bool _ :: r => scls r
  | .str _ :: r => scls r
  | .sl _ _ :: r => scls r
  | .lit _ :: r => scls r
  | _ => false
def pas : AV → Bool
  | .ptr .. => false
  | .osl .. => false
  | .optr .. => false
  | .row .. => false
  | _ => true
def pasl : List AV → Bool
  | [] => true
  | a :: l => pas a && pasl l
def binI (op : BinOp) (a b : Int) : Den :=
  match op with
  | .add => .ne True (fun r => r = .int (wrap64 (a + b))) none
  | .sub => .ne True (fun r => r = .int (wrap64 (a - b))) none
  | .mul => .ne True (fun r => r = .int (wrap64 (a * b))) none
  | .quo => .ne (b ≠ 0) (fun r => r = .int (wrap64 (a.tdiv b))) none
  | .rem => .ne (b ≠ 0) (fun r => r = .int (a.tmod b)) none
  | .eql => .ne True (fun r => r = .bool (decide (a = b))) none
  | .neq => .ne True (fun r => r = .bool (!decide (a = b))) none
  | .lss => .ne True (fun r => r = .bool (decide (a < b))) none
  | .leq => .ne True (fun r => r = .bool (decide (a ≤ b))) none
  | .gtr => .ne True (fun r => r = .bool (decide (a > b))) none
  | .geq => .ne True (fun r => r = .bool (decide (a ≥ b))) none
  | _ => .bad
def binS (op : BinOp) (n m : Nat) : Den :=
  match op with
  | .add => .ne (n + m ≤ 4611686018427387904) (fun r => r = .str (n + m)) none
  | .eql => .ne True (fun r => ∃ b, r = .bool b) none
  | .neq => .ne True (fun r => ∃ b, r = .bool b) none
  | _ => .bad
/-- Structs of numbers alone, compared. -/
def ints : List AV → Bool
  | [] => true
  | .int _ :: r => ints r
  | _ => false
def binA (op : BinOp) (t : Nat) (l m : List AV) : Den :=
  match op with
  | .eql => .ne ((t = 47 ∧ l.length = 2 ∧ m.length = 2 ∨ t = 49 ∧ l.length = 6 ∧ m.length = 6) ∧ ints l = true ∧ ints m = true) (fun r => ∃ b, r = .bool b) none
  | .neq => .ne ((t = 47 ∧ l.length = 2 ∧ m.length = 2 ∨ t = 49 ∧ l.length = 6 ∧ m.length = 6) ∧ ints l = true ∧ ints m = true) (fun r => ∃ b, r = .bool b) none
  | _ => .bad
def binB (op : BinOp) (a b : Bool) : Den :=
  match op with
  | .eql => .ne True (fun r => r = .bool (a == b)) none
  | .neq => .ne True (fun r => r = .bool (!(a == b))) none
  | _ => .bad
def binD (op : BinOp) (t : Nat) : AV → AV → Den
  | .int a, .int b => binI op a b
  | .str n, .str m => binS op n m
  | .agg l, .agg m => binA op t l m
  | .bool a, .bool b => if t = 4 then binB op a b else .bad
  | _, _ => .bad
def unD : UnOp → AV → Den
  | .not, .bool b => .ne True (fun r => r = .bool (!b)) none
  | .neg, .int a => .ne True (fun r => r = .int (wrap64 (0 - a))) none
  | _, _ => .bad
def slcD (e e' n : Nat) (lo hi : Int) : Den := .ne (e' = e ∧ 0 ≤ lo ∧ lo ≤ hi ∧ hi ≤ (n : Int)) (fun r => r = .sl e (hi - lo).toNat) none
/-- A bound of a slicing: what is said, or else. -/
def bnd (T : Nat → AV) (x : Option X) (d : Int) : Option Int :=
  match x with
  | none => some d
  | some x => match ev T x with | .int k => some k | _ => none
/-- The numbers of a table. -/
def inI (l : List AV) (x : Int) : Prop := match l with | [] => False | .int k :: r => x = k ∨ inI r x | _ :: _ => False
def allI : List AV → Bool
  | [] => true
  | .int _ :: r => allI r
  | _ => false
theorem inI_of : ∀ {l : List AV}, allI l = true → ∀ r ∈ l, ∃ x, r = .int x ∧ inI l x
  | [], _, r, hr => by cases hr
  | .int k :: l, h, r, hr => by
    rcases List.mem_cons.1 hr with rfl | hr
    · exact ⟨k, rfl, .inl rfl⟩
    · obtain ⟨x, e, hx⟩ := inI_of (l := l) h r hr
      exact ⟨x, e, .inr hx⟩
/-! what lies there and is known -/
def ldL (m : Addr → Nat → Option (List AV)) (n : Nat) (ag : Bool) : Value → Den
  | .pointer (some ad) => (match m ad n with | some l => .ne True (fun r => r = mk ag l) none | none => .bad)
  | _ => .bad
def faL (k : Nat) : Value → Den
  | .pointer (some ⟨g, o, none⟩) => .ne True (fun r => r = .lit (.pointer (some ⟨g, o + k, none⟩))) none
  | _ => .bad
def iaL (e : Nat) (k : Int) : Value → Den
  | .slice (some ⟨g, o, none⟩) n c => .ne (0 ≤ k ∧ k < (n : Int) ∧ 0 < esz e) (fun r => r = .lit (.pointer (some ⟨g, o + k.toNat * esz e, none⟩))) none
  | _ => .bad
def lenL : Value → Den
  | .slice _ n _ => .ne True (fun r => r = .int (n : Int)) none
  | _ => .bad
def ldD (m : Addr → Nat → Option (List AV)) (s : AS) (n : Nat) (ag fl : Bool) (al : List Nat) : AV → Den
  | .ptr b v o => .ne (v = (s.M b).1 ∧ o + n ≤ (s.M b).2.length ∧ ¬ b ∈ al) (fun r => r = mk ag (((s.M b).2.drop o).take n)) none
  | .optr b v k => .ne (v = (s.M b).1 ∧ (k = (s.M b).2.length ∧ 0 < k) ∧ (n = 1 ∧ ag = false) ∧ ¬ b ∈ al ∧ allI (s.M b).2 = true) (fun r => ∃ x, inI (s.M b).2 x ∧ r = .int x) none
  | .row e o => .ne (o + n ≤ esz e ∧ (fl = true ∨ nosl (((lay e).drop o).take n) = true)) (fun r => ∃ l, gen s.N (((lay e).drop o).take n) l ∧ r = mk ag l) none
  | .lit v => ldL m n ag v
  | _ => .bad
def stD (s : AS) (n : Nat) : AV → Option (List AV) → Den
  | .ptr b v o, some l => .ne (v = (s.M b).1 ∧ l.length = n ∧ o + n ≤ (s.M b).2.length ∧ scls l = true) (fun r => r = .undef) (some (b, (s.M b).1, (s.M b).2.take o ++ l ++ (s.M b).2.drop (o + n)))
  | .row e o, some l => .ne (l.length = n ∧ o + n ≤ esz e ∧ cfm (((lay e).drop o).take n) l ∧ scls l = true) (fun r => r = .undef) none
  | _, _ => .bad
def den (Γ : Ctx) (d : Nat) (s : AS) : AOp → Den
  | .mv x => .ne True (fun r => r = ev s.T x) none
  | .pick c a b => match ev s.T c with | .bool t => .ne True (fun r => r = cond t (ev s.T a) (ev s.T b)) none | _ => .bad
  | .new z => .ne True (fun r => r = .ptr d ((s.M d).1 + 1) 0) (some (d, (s.M d).1 + 1, z))
  | .box x => match cellsA (ev s.T x) with | some l => .ne True (fun r => r = .ptr d ((s.M d).1 + 1) 0) (some (d, (s.M d).1 + 1, l)) | none => .bad
  | .build z ps => match fillA s.T z ps with | some l => .ne True (fun r => r = .agg l) none | none => .bad
  | .bsl e ps => .ne (allC s.T e ps ∧ ps.length ≤ 16) (fun r => r = .sl e ps.length) none
  | .ld n ag fl al x => ldD Γ.m s n ag fl al (ev s.T x)
  | .st n x v => stD s n (ev s.T x) (cellsA (ev s.T v))
  | .fa k x => match ev s.T x with | .ptr b v o => .ne True (fun r => r = .ptr b v (o + k)) none | .row e o => .ne (o + k < esz e) (fun r => r = .row e (o + k)) none | .lit v => faL k v | _ => .bad
  | .ia e x i => match ev s.T x, ev s.T i with | .sl e' n, .int k => .ne (e' = e ∧ 0 ≤ k ∧ k < (n : Int)) (fun r => r = .row e 0) none | .osl b v n, .int k => .ne (e = 3 ∧ 0 ≤ k ∧ k < (n : Int)) (fun r => r = .optr b v n) none | .lit v, .int k => iaL e k v | _, _ => .bad
  | .bin op t x y => binD op t (ev s.T x) (ev s.T y)
  | .un op x => unD op (ev s.T x)
  | .cvt x => match ev s.T x with | .byte b => .ne True (fun r => r = .int (wrap64 b)) none | _ => .bad
  | .ext k x => match ev s.T x with | .tup l => (match l[k]? with | some v => .ne True (fun r => r = v) none | none => .bad) | _ => .bad
  | .fld off n ag x => match ev s.T x with | .agg l => .ne (off + n ≤ l.length ∧ 0 < n) (fun r => r = mk ag ((l.drop off).take n)) none | _ => .bad
  | .slc e x lo hi => match ev s.T x with | .sl e' n => (match bnd s.T lo 0, bnd s.T hi n with | some l, some h => slcD e e' n l h | _, _ => .bad) | _ => .bad
  | .len st x => match st, ev s.T x with | false, .sl e n => .ne True (fun r => r = .int (n : Int)) none | false, .lit v => lenL v | true, .str n => .ne True (fun r => r = .int (n : Int)) none | _, _ => .bad
  | .app e x y => match ev s.T x, ev s.T y with | .sl e1 n, .sl e2 m => .ev (e1 = e ∧ e2 = e ∧ n + m ≤ LIM) (fun r N' => r = .sl e (n + m) ∧ N' = Nat.max s.N (n + m)) | _, _ => .bad
  | .call f ps => match Γ.f f with | some sp => .ev (sp.pre (ps.map (ev s.T)) s.N ∧ pasl (ps.map (ev s.T)) = true) (fun r N' => sp.post (ps.map (ev s.T)) s.N r N') | none => .bad
  | .idx x i => match ev s.T x, ev s.T i with | .str n, .int k => .ne (0 ≤ k ∧ k < (n : Int)) (fun r => ∃ b : Int, 0 ≤ b ∧ b < 256 ∧ r = .byte b) none | _, _ => .bad
  | .tab ps => match tabL s.T ps with | some l => .ne (l.length ≤ 16 ∧ 0 < l.length) (fun r => r = .osl d ((s.M d).1 + 1) l.length) (some (d, (s.M d).1 + 1, l)) | none => .bad
def putA (T : Nat → AV) (d : Option Nat) (v : AV) : Nat → AV := match d with | some t => upd T t v | none => T
def memA (M : Nat → Nat × List AV) (mu : Option (Nat × Nat × List AV)) : Nat → Nat × List AV := match mu with | some (b, c) => upd M b c | none => M
def runD (D : Den) (d : Option Nat) (s : AS) (K : AS → Prop) : Prop :=
  match D with
  | .bad => False
  | .ne safe res mu => safe ∧ ∀ r, res r → K ⟨putA s.T d r, memA s.M mu, s.N⟩
  | .ev safe res => safe ∧ ∀ r N', res r N' → s.N ≤ N' → K ⟨putA s.T d r, s.M, N'⟩
def astep (Γ : Ctx) (o : AOper) (s : AS) (K : AS → Prop) : Prop :=
  match o.g with
  | none => runD (den Γ (o.d.getD 0) s o.o) o.d s K
  | some (g, want) =>
    match s.T g with
    | .bool b => (b = want → runD (den Γ (o.d.getD 0) ⟨upd s.T g (.bool want), s.M, s.N⟩ o.o) o.d ⟨upd s.T g (.bool want), s.M, s.N⟩ K) ∧ (b = !want → K ⟨putA (upd s.T g (.bool (!want))) o.d .undef, s.M, s.N⟩)
    | .undef => K ⟨putA s.T o.d .undef, s.M, s.N⟩
    | _ => False
def aops (Γ : Ctx) : List AOper → AS → (AS → Prop) → Prop
  | [], s, K => K s
  | o :: r, s, K => astep Γ o s (fun s' => aops Γ r s' K)
inductive AExit where
  | norm | exit (id : Nat) | ret
def setB (T : Nat → AV) : X → Bool → Nat → AV
  | .t n, b => upd T n (.bool b)
  | .c _, _ => T
def awp (Γ : Ctx) : ACode → (AExit → AS → Prop) → AS → Prop
  | .skip, Q, s => Q .norm s
  | .ops l, Q, s => aops Γ l s (Q .norm)
  | .seq a b, Q, s => awp Γ a (fun e s' => match e with | .norm => awp Γ b Q s' | .exit i => Q (.exit i) s' | .ret => Q .ret s') s
  | .cond c a b, Q, s => match ev s.T c with | .bool t => (t = true → awp Γ a Q ⟨setB s.T c true, s.M, s.N⟩) ∧ (t = false → awp Γ b Q ⟨setB s.T c false, s.M, s.N⟩) | _ => False
  | .blk id a, Q, s => awp Γ a (fun e s' => match e with | .norm => Q .norm s' | .exit i => if i = id then Q .norm s' else Q (.exit i) s' | .ret => Q .ret s') s
  | .loop a, Q, s => ∃ I : Nat → AS → Prop, (∃ n, I n s) ∧ ∀ n s', I n s' → awp Γ a (fun e s'' => match e with | .norm => ∃ m, m < n ∧ I m s'' | .exit i => Q (.exit i) s'' | .ret => Q .ret s'') s'
  | .exit i, Q, s => Q (.exit i) s
  | .ret, Q, s => Q .ret s

/-! ### how a program of the model is read -/
def tsz : Nat → Option (Nat × Bool)
  | 3 => some (1, false) | 4 => some (1, false) | 5 => some (1, false) | 9 => some (1, false)
  | 22 => some (1, false) | 23 => some (1, false) | 24 => some (1, false) | 25 => some (1, false) | 32 => some (1, false) | 50 => some (1, false)
  | 57 => some (1, false) | 61 => some (1, false) | 71 => some (1, false) | 72 => some (1, false) | 107 => some (1, false) | 111 => some (1, false)
  | 27 => some (6, true) | 41 => some (3, true) | 47 => some (2, true) | 49 => some (6, true) | 52 => some (11, true) | 63 => some (8, true) | 65 => some (9, true) | 74 => some (3, true) | 125 => some (2, true)
  | _ => none
def zeroA : Nat → Option (List AV)
  | 3 => some [.int 0] | 4 => some [.bool false] | 9 => some [.str 0]
  | 23 => some [.sl 52 0] | 24 => some [.sl 41 0] | 25 => some [.sl 4 0] | 32 => some [.sl 65 0] | 50 => some [.sl 47 0] | 57 => some [.sl 3 0] | 61 => some [.sl 49 0] | 71 => some [.sl 125 0] | 72 => some [.sl 27 0]
  | 27 => some [.int 0, .int 0, .sl 52 0, .int 0, .sl 41 0, .sl 4 0]
  | 41 => some [.int 0, .int 0, .int 0]
  | 47 => some [.int 0, .int 0]
  | 49 => some [.int 0, .int 0, .int 0, .int 0, .int 0, .int 0]
  | 52 => some [.int 0, .int 0, .int 0, .int 0, .int 0, .int 0, .int 0, .int 0, .int 0, .int 0, .sl 47 0]
  | 63 => some [.int 0, .int 0, .int 0, .int 0, .int 0, .int 0, .int 0, .sl 49 0]
  | 65 => some [.int 0, .int 0, .int 0, .int 0, .int 0, .int 0, .int 0, .sl 49 0, .int 0]
  | 74 => some [.sl 3 0, .sl 125 0, .sl 27 0]
  | 125 => some [.sl 49 0, .int 0]
  | _ => none
def slel : Nat → Option Nat
  | 22 => some 5 | 23 => some 52 | 24 => some 41 | 25 => some 4 | 32 => some 65 | 50 => some 47 | 57 => some 3 | 61 => some 49 | 71 => some 125 | 72 => some 27 | 107 => some 9 | 111 => some 57
  | _ => none
/-- Where a struct's fields lie: offset and cells. -/
def flds : Nat → List (Nat × Nat)
  | 27 => [(0, 1), (1, 1), (2, 1), (3, 1), (4, 1), (5, 1)]
  | 41 => [(0, 1), (1, 1), (2, 1)]
  | 47 => [(0, 1), (1, 1)]
  | 49 => [(0, 1), (1, 2), (3, 2), (5, 1)]
  | 52 => [(0, 6), (6, 1), (7, 2), (9, 1), (10, 1)]
  | 63 => [(0, 1), (1, 1), (2, 1), (3, 1), (4, 1), (5, 2), (7, 1)]
  | 65 => [(0, 8), (8, 1)]
  | 74 => [(0, 1), (1, 1), (2, 1)]
  | 125 => [(0, 1), (1, 1)]
  | _ => []
def annV (t : Nat) : Value → Option AV
  | .int .i64 n => some (.int n)
  | .bool b => some (.bool b)
  | .string s => some (.str s.size)
  | .slice none 0 0 => (slel t).map fun e => .sl e 0
  | _ => none
def annX (t : Nat) : Operand → Option X
  | .tmp n => some (.t n)
  | .const v => (annV t v).map .c
  | _ => none
def annParts (fs : List (Nat × Nat)) : List (Nat × Operand) → Option (List (Nat × Nat × X))
  | [] => some []
  | (i, x) :: r => match fs[i]?, annX 0 x, annParts fs r with | some (o, n), some y, some l => some ((o, n, y) :: l) | _, _, _ => none
def annElems : Nat → List (Nat × Operand) → Option (List X)
  | _, [] => some []
  | k, (i, x) :: r => if i = k then (match annX 0 x, annElems (k + 1) r with | some y, some l => some (y :: l) | _, _ => none) else none
def annXs : List Operand → Option (List X)
  | [] => some []
  | x :: r => match annX 0 x, annXs r with | some y, some l => some (y :: l) | _, _ => none
def annO (x : Option Operand) : Option (Option X) :=
  match x with | none => some none | some x => (annX 0 x).map some
def annCall (c : Call) : Option AOp :=
  match c.callee with
  | .value f => (match f with | .func g => (annXs c.args.toList).map (.call g) | _ => none)
  | .builtin b =>
    (match b, c.args.toList, c.argTypes.toList with
     | .len, [x], [t] => if t = 9 then (annX 0 x).map (.len true) else if (slel t).isSome then (annX 0 x).map (.len false) else none
     | .append, [x, y], [t, t'] => if t = t' then (match slel t, annX 0 x, annX 0 y with | some e, some x, some y => some (.app e x y) | _, _, _ => none) else none
     | _, _, _ => none)
  | _ => none
def annOp (fl : Bool) (al : List Nat) (ty : Nat) : Op → Option AOp
  | .move x => (annX ty x).map .mv
  | .assign x => (annX ty x).map .mv
  | .pick c a b => match annX 0 c, annX 0 a, annX 0 b with | some c, some a, some b => some (.pick c a b) | _, _, _ => none
  | .alloc e => (zeroA e).map .new
  | .box e x => (annX 0 x).map .box
  | .build t ps => match zeroA t, annParts (flds t) ps.toList with | some z, some l => if (flds t).isEmpty then none else some (.build z l) | _, _ => none
  | .buildSlice t n ps => match slel t, annElems 0 ps.toList with | some e, some l => if n = l.length ∧ n ≤ 16 then some (.bsl e l) else none | _, _ => none
  | .load t x => match tsz t, annX 0 x with | some (n, ag), some y => some (.ld n ag fl al y) | _, _ => none
  | .store t x v => match tsz t, annX 0 x, annX t v with | some (n, _), some y, some u => some (.st n y u) | _, _, _ => none
  | .fieldAddr t x k => match (flds t)[k]?, annX 0 x with | some (o, _), some y => some (.fa o y) | _, _ => none
  | .indexAddr t x i => match slel t, annX 0 x, annX 0 i with | some e, some y, some j => some (.ia e y j) | _, _, _ => none
  | .binOp op t x y _ => match annX 0 x, annX 0 y with | some x, some y => some (.bin op t x y) | _, _ => none
  | .unOp op _ x => (annX 0 x).map (.un op)
  | .convert u d x => if u = 5 ∧ d = 3 then (annX 0 x).map .cvt else none
  | .extract x k => (annX 0 x).map (.ext k)
  | .field t x k => if t = 47 then (match (flds 47)[k]?, annX 0 x with | some (o, n), some y => if n = 1 then some (.fld o n false y) else none | _, _ => none) else none
  | .slice t x lo hi mx => if mx.isSome then none else (match slel t, annX 0 x, annO lo, annO hi with | some e, some y, some l, some h => some (.slc e y l h) | _, _, _, _ => none)
  | .call c => annCall c
  | .index t x i => if t = 9 then (match annX 0 x, annX 0 i with | some x, some i => some (.idx x i) | _, _ => none) else none
  | _ => none
end Go.Proofs.Ytipfdcmjcelbiaa.Safe
end

section
/-! ## S2: The tables of the typed machine hold of the program's types; plain facts, no conditions. -/
set_option linter.unusedVariables false
set_option linter.unusedSimpArgs false
namespace Go.Proofs.Ytipfdcmjcelbiaa.Safe
open Go Go.RowKit

/-! ### the tables hold -/
theorem slel_ok {t e : Nat} (h : slel t = some e) : Try.prog.underlying t = some (.slice e) ∧ 0 < esz e := by
  unfold slel at h
  split at h <;> first
    | (cases h; done)
    | (injection h with h; subst h; exact ⟨by kernel_rfl, by decide⟩)
theorem tsz_ok {t n : Nat} {ag : Bool} (h : tsz t = some (n, ag)) : (∃ i, Try.prog.info? t = some i ∧ i.size = n) ∧ (∀ w, (isAgg t).run Try.prog w = .ok ag w) ∧ (ag = false → n = 1) ∧ 0 < n := by
  unfold tsz at h
  split at h <;> first
    | (cases h; done)
    | (simp only [Option.some.injEq, Prod.mk.injEq] at h
       obtain ⟨h1, h2⟩ := h
       subst h1; subst h2
       exact ⟨Option.map_eq_some_iff.1 (show (Try.prog.info? _).map (·.size) = some _ by kernel_rfl), fun w => by kernel_rfl, by simp, by decide⟩)
theorem slt0 (S : Nat → Prop) (N : Nat) (w : World) {e : Nat} (h : 0 < esz e) : SLT S N w e 0 none 0 := ⟨Nat.zero_le _, Nat.le_refl _, h, .inl ⟨rfl, rfl⟩⟩
theorem zero_ok {e : Nat} {z : List AV} (h : zeroA e = some z) : z ≠ [] ∧ ∃ i zv, Try.prog.info? e = some i ∧ i.zero = some zv ∧ i.size = z.length ∧ ∀ S N w, F2 (SV S N w) z zv.cells.toList := by
  unfold zeroA at h
  split at h
  case h_1 => exact ⟨by injection h with h; subst h; simp, by
    injection h with h; subst h
    obtain ⟨i, hi, he⟩ := Option.map_eq_some_iff.1 (show (Try.prog.info? 3).map (fun i => (i.zero, i.size)) = some (some (.int .i64 0), 1) by kernel_rfl)
    simp only [Prod.mk.injEq] at he
    exact ⟨i, _, hi, he.1, he.2, fun S N w => ⟨rfl, trivial⟩⟩⟩
  case h_2 => exact ⟨by injection h with h; subst h; simp, by
    injection h with h; subst h
    obtain ⟨i, hi, he⟩ := Option.map_eq_some_iff.1 (show (Try.prog.info? 4).map (fun i => (i.zero, i.size)) = some (some (.bool false), 1) by kernel_rfl)
    simp only [Prod.mk.injEq] at he
    exact ⟨i, _, hi, he.1, he.2, fun S N w => ⟨rfl, trivial⟩⟩⟩
  case h_3 => exact ⟨by injection h with h; subst h; simp, by
    injection h with h; subst h
    obtain ⟨i, hi, he⟩ := Option.map_eq_some_iff.1 (show (Try.prog.info? 9).map (fun i => (i.zero, i.size)) = some (some (.string ⟨#[]⟩), 1) by kernel_rfl)
    simp only [Prod.mk.injEq] at he
    exact ⟨i, _, hi, he.1, he.2, fun S N w => ⟨⟨_, rfl, rfl⟩, trivial⟩⟩⟩
  case h_4 => exact ⟨by injection h with h; subst h; simp, by
    injection h with h; subst h
    obtain ⟨i, hi, he⟩ := Option.map_eq_some_iff.1 (show (Try.prog.info? 23).map (fun i => (i.zero, i.size)) = some (some (.slice none 0 0), 1) by kernel_rfl)
    simp only [Prod.mk.injEq] at he
    exact ⟨i, _, hi, he.1, he.2, fun S N w => ⟨⟨none, 0, rfl, slt0 S N w (by decide)⟩, trivial⟩⟩⟩
  case h_5 => exact ⟨by injection h with h; subst h; simp, by
    injection h with h; subst h
    obtain ⟨i, hi, he⟩ := Option.map_eq_some_iff.1 (show (Try.prog.info? 24).map (fun i => (i.zero, i.size)) = some (some (.slice none 0 0), 1) by kernel_rfl)
    simp only [Prod.mk.injEq] at he
    exact ⟨i, _, hi, he.1, he.2, fun S N w => ⟨⟨none, 0, rfl, slt0 S N w (by decide)⟩, trivial⟩⟩⟩
  case h_6 => exact ⟨by injection h with h; subst h; simp, by
    injection h with h; subst h
    obtain ⟨i, hi, he⟩ := Option.map_eq_some_iff.1 (show (Try.prog.info? 25).map (fun i => (i.zero, i.size)) = some (some (.slice none 0 0), 1) by kernel_rfl)
    simp only [Prod.mk.injEq] at he
    exact ⟨i, _, hi, he.1, he.2, fun S N w => ⟨⟨none, 0, rfl, slt0 S N w (by decide)⟩, trivial⟩⟩⟩
  case h_7 => exact ⟨by injection h with h; subst h; simp, by
    injection h with h; subst h
    obtain ⟨i, hi, he⟩ := Option.map_eq_some_iff.1 (show (Try.prog.info? 32).map (fun i => (i.zero, i.size)) = some (some (.slice none 0 0), 1) by kernel_rfl)
    simp only [Prod.mk.injEq] at he
    exact ⟨i, _, hi, he.1, he.2, fun S N w => ⟨⟨none, 0, rfl, slt0 S N w (by decide)⟩, trivial⟩⟩⟩
  case h_8 => exact ⟨by injection h with h; subst h; simp, by
    injection h with h; subst h
    obtain ⟨i, hi, he⟩ := Option.map_eq_some_iff.1 (show (Try.prog.info? 50).map (fun i => (i.zero, i.size)) = some (some (.slice none 0 0), 1) by kernel_rfl)
    simp only [Prod.mk.injEq] at he
    exact ⟨i, _, hi, he.1, he.2, fun S N w => ⟨⟨none, 0, rfl, slt0 S N w (by decide)⟩, trivial⟩⟩⟩
  case h_9 => exact ⟨by injection h with h; subst h; simp, by
    injection h with h; subst h
    obtain ⟨i, hi, he⟩ := Option.map_eq_some_iff.1 (show (Try.prog.info? 57).map (fun i => (i.zero, i.size)) = some (some (.slice none 0 0), 1) by kernel_rfl)
    simp only [Prod.mk.injEq] at he
    exact ⟨i, _, hi, he.1, he.2, fun S N w => ⟨⟨none, 0, rfl, slt0 S N w (by decide)⟩, trivial⟩⟩⟩
  case h_10 => exact ⟨by injection h with h; subst h; simp, by
    injection h with h; subst h
    obtain ⟨i, hi, he⟩ := Option.map_eq_some_iff.1 (show (Try.prog.info? 61).map (fun i => (i.zero, i.size)) = some (some (.slice none 0 0), 1) by kernel_rfl)
    simp only [Prod.mk.injEq] at he
    exact ⟨i, _, hi, he.1, he.2, fun S N w => ⟨⟨none, 0, rfl, slt0 S N w (by decide)⟩, trivial⟩⟩⟩
  case h_11 => exact ⟨by injection h with h; subst h; simp, by
    injection h with h; subst h
    obtain ⟨i, hi, he⟩ := Option.map_eq_some_iff.1 (show (Try.prog.info? 71).map (fun i => (i.zero, i.size)) = some (some (.slice none 0 0), 1) by kernel_rfl)
    simp only [Prod.mk.injEq] at he
    exact ⟨i, _, hi, he.1, he.2, fun S N w => ⟨⟨none, 0, rfl, slt0 S N w (by decide)⟩, trivial⟩⟩⟩
  case h_12 => exact ⟨by injection h with h; subst h; simp, by
    injection h with h; subst h
    obtain ⟨i, hi, he⟩ := Option.map_eq_some_iff.1 (show (Try.prog.info? 72).map (fun i => (i.zero, i.size)) = some (some (.slice none 0 0), 1) by kernel_rfl)
    simp only [Prod.mk.injEq] at he
    exact ⟨i, _, hi, he.1, he.2, fun S N w => ⟨⟨none, 0, rfl, slt0 S N w (by decide)⟩, trivial⟩⟩⟩
  case h_13 => exact ⟨by injection h with h; subst h; simp, by
    injection h with h; subst h
    obtain ⟨i, hi, he⟩ := Option.map_eq_some_iff.1 (show (Try.prog.info? 27).map (fun i => (i.zero, i.size)) = some (some (.agg #[.int .i64 0, .int .i64 0, .slice none 0 0, .int .i64 0, .slice none 0 0, .slice none 0 0]), 6) by kernel_rfl)
    simp only [Prod.mk.injEq] at he
    exact ⟨i, _, hi, he.1, he.2, fun S N w => ⟨rfl, rfl, ⟨none, 0, rfl, slt0 S N w (by decide)⟩, rfl, ⟨none, 0, rfl, slt0 S N w (by decide)⟩, ⟨none, 0, rfl, slt0 S N w (by decide)⟩, trivial⟩⟩⟩
  case h_14 => exact ⟨by injection h with h; subst h; simp, by
    injection h with h; subst h
    obtain ⟨i, hi, he⟩ := Option.map_eq_some_iff.1 (show (Try.prog.info? 41).map (fun i => (i.zero, i.size)) = some (some (.agg #[.int .i64 0, .int .i64 0, .int .i64 0]), 3) by kernel_rfl)
    simp only [Prod.mk.injEq] at he
    exact ⟨i, _, hi, he.1, he.2, fun S N w => ⟨rfl, rfl, rfl, trivial⟩⟩⟩
  case h_15 => exact ⟨by injection h with h; subst h; simp, by
    injection h with h; subst h
    obtain ⟨i, hi, he⟩ := Option.map_eq_some_iff.1 (show (Try.prog.info? 47).map (fun i => (i.zero, i.size)) = some (some (.agg #[.int .i64 0, .int .i64 0]), 2) by kernel_rfl)
    simp only [Prod.mk.injEq] at he
    exact ⟨i, _, hi, he.1, he.2, fun S N w => ⟨rfl, rfl, trivial⟩⟩⟩
  case h_16 => exact ⟨by injection h with h; subst h; simp, by
    injection h with h; subst h
    obtain ⟨i, hi, he⟩ := Option.map_eq_some_iff.1 (show (Try.prog.info? 49).map (fun i => (i.zero, i.size)) = some (some (.agg #[.int .i64 0, .int .i64 0, .int .i64 0, .int .i64 0, .int .i64 0, .int .i64 0]), 6) by kernel_rfl)
    simp only [Prod.mk.injEq] at he
    exact ⟨i, _, hi, he.1, he.2, fun S N w => ⟨rfl, rfl, rfl, rfl, rfl, rfl, trivial⟩⟩⟩
  case h_17 => exact ⟨by injection h with h; subst h; simp, by
    injection h with h; subst h
    obtain ⟨i, hi, he⟩ := Option.map_eq_some_iff.1 (show (Try.prog.info? 52).map (fun i => (i.zero, i.size)) = some (some (.agg #[.int .i64 0, .int .i64 0, .int .i64 0, .int .i64 0, .int .i64 0, .int .i64 0, .int .i64 0, .int .i64 0, .int .i64 0, .int .i64 0, .slice none 0 0]), 11) by kernel_rfl)
    simp only [Prod.mk.injEq] at he
    exact ⟨i, _, hi, he.1, he.2, fun S N w => ⟨rfl, rfl, rfl, rfl, rfl, rfl, rfl, rfl, rfl, rfl, ⟨none, 0, rfl, slt0 S N w (by decide)⟩, trivial⟩⟩⟩
  case h_18 => exact ⟨by injection h with h; subst h; simp, by
    injection h with h; subst h
    obtain ⟨i, hi, he⟩ := Option.map_eq_some_iff.1 (show (Try.prog.info? 63).map (fun i => (i.zero, i.size)) = some (some (.agg #[.int .i64 0, .int .i64 0, .int .i64 0, .int .i64 0, .int .i64 0, .int .i64 0, .int .i64 0, .slice none 0 0]), 8) by kernel_rfl)
    simp only [Prod.mk.injEq] at he
    exact ⟨i, _, hi, he.1, he.2, fun S N w => ⟨rfl, rfl, rfl, rfl, rfl, rfl, rfl, ⟨none, 0, rfl, slt0 S N w (by decide)⟩, trivial⟩⟩⟩
  case h_19 => exact ⟨by injection h with h; subst h; simp, by
    injection h with h; subst h
    obtain ⟨i, hi, he⟩ := Option.map_eq_some_iff.1 (show (Try.prog.info? 65).map (fun i => (i.zero, i.size)) = some (some (.agg #[.int .i64 0, .int .i64 0, .int .i64 0, .int .i64 0, .int .i64 0, .int .i64 0, .int .i64 0, .slice none 0 0, .int .i64 0]), 9) by kernel_rfl)
    simp only [Prod.mk.injEq] at he
    exact ⟨i, _, hi, he.1, he.2, fun S N w => ⟨rfl, rfl, rfl, rfl, rfl, rfl, rfl, ⟨none, 0, rfl, slt0 S N w (by decide)⟩, rfl, trivial⟩⟩⟩
  case h_20 => exact ⟨by injection h with h; subst h; simp, by
    injection h with h; subst h
    obtain ⟨i, hi, he⟩ := Option.map_eq_some_iff.1 (show (Try.prog.info? 74).map (fun i => (i.zero, i.size)) = some (some (.agg #[.slice none 0 0, .slice none 0 0, .slice none 0 0]), 3) by kernel_rfl)
    simp only [Prod.mk.injEq] at he
    exact ⟨i, _, hi, he.1, he.2, fun S N w => ⟨⟨none, 0, rfl, slt0 S N w (by decide)⟩, ⟨none, 0, rfl, slt0 S N w (by decide)⟩, ⟨none, 0, rfl, slt0 S N w (by decide)⟩, trivial⟩⟩⟩
  case h_21 => exact ⟨by injection h with h; subst h; simp, by
    injection h with h; subst h
    obtain ⟨i, hi, he⟩ := Option.map_eq_some_iff.1 (show (Try.prog.info? 125).map (fun i => (i.zero, i.size)) = some (some (.agg #[.slice none 0 0, .int .i64 0]), 2) by kernel_rfl)
    simp only [Prod.mk.injEq] at he
    exact ⟨i, _, hi, he.1, he.2, fun S N w => ⟨⟨none, 0, rfl, slt0 S N w (by decide)⟩, rfl, trivial⟩⟩⟩
  all_goals cases h
theorem fieldAt_ok {t k off n : Nat} (h : (flds t)[k]? = some (off, n)) (g o : Nat) (w : World) : (Instr.fieldAt t (.pointer (some ⟨g, o, none⟩)) k).run Try.prog w = .ok (.pointer (some ⟨g, o + off, none⟩)) w := by
  unfold flds at h
  split at h
  · rcases k with _ | _ | _ | _ | _ | _ | k
    · simp only [List.getElem?_cons_zero, List.getElem?_cons_succ, Option.some.injEq, Prod.mk.injEq] at h
      obtain ⟨h1, h2⟩ := h
      subst h1
      kernel_rfl
    · simp only [List.getElem?_cons_zero, List.getElem?_cons_succ, Option.some.injEq, Prod.mk.injEq] at h
      obtain ⟨h1, h2⟩ := h
      subst h1
      kernel_rfl
    · simp only [List.getElem?_cons_zero, List.getElem?_cons_succ, Option.some.injEq, Prod.mk.injEq] at h
      obtain ⟨h1, h2⟩ := h
      subst h1
      kernel_rfl
    · simp only [List.getElem?_cons_zero, List.getElem?_cons_succ, Option.some.injEq, Prod.mk.injEq] at h
      obtain ⟨h1, h2⟩ := h
      subst h1
      kernel_rfl
    · simp only [List.getElem?_cons_zero, List.getElem?_cons_succ, Option.some.injEq, Prod.mk.injEq] at h
      obtain ⟨h1, h2⟩ := h
      subst h1
      kernel_rfl
    · simp only [List.getElem?_cons_zero, List.getElem?_cons_succ, Option.some.injEq, Prod.mk.injEq] at h
      obtain ⟨h1, h2⟩ := h
      subst h1
      kernel_rfl
    · simp at h
  · rcases k with _ | _ | _ | k
    · simp only [List.getElem?_cons_zero, List.getElem?_cons_succ, Option.some.injEq, Prod.mk.injEq] at h
      obtain ⟨h1, h2⟩ := h
      subst h1
      kernel_rfl
    · simp only [List.getElem?_cons_zero, List.getElem?_cons_succ, Option.some.injEq, Prod.mk.injEq] at h
      obtain ⟨h1, h2⟩ := h
      subst h1
      kernel_rfl
    · simp only [List.getElem?_cons_zero, List.getElem?_cons_succ, Option.some.injEq, Prod.mk.injEq] at h
      obtain ⟨h1, h2⟩ := h
      subst h1
      kernel_rfl
    · simp at h
  · rcases k with _ | _ | k
    · simp only [List.getElem?_cons_zero, List.getElem?_cons_succ, Option.some.injEq, Prod.mk.injEq] at h
      obtain ⟨h1, h2⟩ := h
      subst h1
      kernel_rfl
    · simp only [List.getElem?_cons_zero, List.getElem?_cons_succ, Option.some.injEq, Prod.mk.injEq] at h
      obtain ⟨h1, h2⟩ := h
      subst h1
      kernel_rfl
    · simp at h
  · rcases k with _ | _ | _ | _ | k
    · simp only [List.getElem?_cons_zero, List.getElem?_cons_succ, Option.some.injEq, Prod.mk.injEq] at h
      obtain ⟨h1, h2⟩ := h
      subst h1
      kernel_rfl
    · simp only [List.getElem?_cons_zero, List.getElem?_cons_succ, Option.some.injEq, Prod.mk.injEq] at h
      obtain ⟨h1, h2⟩ := h
      subst h1
      kernel_rfl
    · simp only [List.getElem?_cons_zero, List.getElem?_cons_succ, Option.some.injEq, Prod.mk.injEq] at h
      obtain ⟨h1, h2⟩ := h
      subst h1
      kernel_rfl
    · simp only [List.getElem?_cons_zero, List.getElem?_cons_succ, Option.some.injEq, Prod.mk.injEq] at h
      obtain ⟨h1, h2⟩ := h
      subst h1
      kernel_rfl
    · simp at h
  · rcases k with _ | _ | _ | _ | _ | k
    · simp only [List.getElem?_cons_zero, List.getElem?_cons_succ, Option.some.injEq, Prod.mk.injEq] at h
      obtain ⟨h1, h2⟩ := h
      subst h1
      kernel_rfl
    · simp only [List.getElem?_cons_zero, List.getElem?_cons_succ, Option.some.injEq, Prod.mk.injEq] at h
      obtain ⟨h1, h2⟩ := h
      subst h1
      kernel_rfl
    · simp only [List.getElem?_cons_zero, List.getElem?_cons_succ, Option.some.injEq, Prod.mk.injEq] at h
      obtain ⟨h1, h2⟩ := h
      subst h1
      kernel_rfl
    · simp only [List.getElem?_cons_zero, List.getElem?_cons_succ, Option.some.injEq, Prod.mk.injEq] at h
      obtain ⟨h1, h2⟩ := h
      subst h1
      kernel_rfl
    · simp only [List.getElem?_cons_zero, List.getElem?_cons_succ, Option.some.injEq, Prod.mk.injEq] at h
      obtain ⟨h1, h2⟩ := h
      subst h1
      kernel_rfl
    · simp at h
  · rcases k with _ | _ | _ | _ | _ | _ | _ | k
    · simp only [List.getElem?_cons_zero, List.getElem?_cons_succ, Option.some.injEq, Prod.mk.injEq] at h
      obtain ⟨h1, h2⟩ := h
      subst h1
      kernel_rfl
    · simp only [List.getElem?_cons_zero, List.getElem?_cons_succ, Option.some.injEq, Prod.mk.injEq] at h
      obtain ⟨h1, h2⟩ := h
      subst h1
      kernel_rfl
    · simp only [List.getElem?_cons_zero, List.getElem?_cons_succ, Option.some.injEq, Prod.mk.injEq] at h
      obtain ⟨h1, h2⟩ := h
      subst h1
      kernel_rfl
    · simp only [List.getElem?_cons_zero, List.getElem?_cons_succ, Option.some.injEq, Prod.mk.injEq] at h
      obtain ⟨h1, h2⟩ := h
      subst h1
      kernel_rfl
    · simp only [List.getElem?_cons_zero, List.getElem?_cons_succ, Option.some.injEq, Prod.mk.injEq] at h
      obtain ⟨h1, h2⟩ := h
      subst h1
      kernel_rfl
    · simp only [List.getElem?_cons_zero, List.getElem?_cons_succ, Option.some.injEq, Prod.mk.injEq] at h
      obtain ⟨h1, h2⟩ := h
      subst h1
      kernel_rfl
    · simp only [List.getElem?_cons_zero, List.getElem?_cons_succ, Option.some.injEq, Prod.mk.injEq] at h
      obtain ⟨h1, h2⟩ := h
      subst h1
      kernel_rfl
    · simp at h
  · rcases k with _ | _ | k
    · simp only [List.getElem?_cons_zero, List.getElem?_cons_succ, Option.some.injEq, Prod.mk.injEq] at h
      obtain ⟨h1, h2⟩ := h
      subst h1
      kernel_rfl
    · simp only [List.getElem?_cons_zero, List.getElem?_cons_succ, Option.some.injEq, Prod.mk.injEq] at h
      obtain ⟨h1, h2⟩ := h
      subst h1
      kernel_rfl
    · simp at h
  · rcases k with _ | _ | _ | k
    · simp only [List.getElem?_cons_zero, List.getElem?_cons_succ, Option.some.injEq, Prod.mk.injEq] at h
      obtain ⟨h1, h2⟩ := h
      subst h1
      kernel_rfl
    · simp only [List.getElem?_cons_zero, List.getElem?_cons_succ, Option.some.injEq, Prod.mk.injEq] at h
      obtain ⟨h1, h2⟩ := h
      subst h1
      kernel_rfl
    · simp only [List.getElem?_cons_zero, List.getElem?_cons_succ, Option.some.injEq, Prod.mk.injEq] at h
      obtain ⟨h1, h2⟩ := h
      subst h1
      kernel_rfl
    · simp at h
  · rcases k with _ | _ | k
    · simp only [List.getElem?_cons_zero, List.getElem?_cons_succ, Option.some.injEq, Prod.mk.injEq] at h
      obtain ⟨h1, h2⟩ := h
      subst h1
      kernel_rfl
    · simp only [List.getElem?_cons_zero, List.getElem?_cons_succ, Option.some.injEq, Prod.mk.injEq] at h
      obtain ⟨h1, h2⟩ := h
      subst h1
      kernel_rfl
    · simp at h
  · simp at h
theorem flds_ok {t : Nat} (h : (flds t).isEmpty = false) : ∃ fields, Try.prog.underlying t = some (.struct fields) ∧ ∀ w, (fields.mapM fun f => do pure (f.offset, ← sizeOf f.type) : Sem _).run Try.prog w = .ok (flds t).toArray w := by
  unfold flds at h ⊢
  split at h
  · exact ⟨_, Try.underlying27, fun w => by kernel_rfl⟩
  · exact ⟨_, Try.underlying41, fun w => by kernel_rfl⟩
  · exact ⟨_, Try.underlying47, fun w => by kernel_rfl⟩
  · exact ⟨_, Try.underlying49, fun w => by kernel_rfl⟩
  · exact ⟨_, Try.underlying52, fun w => by kernel_rfl⟩
  · exact ⟨_, Try.underlying63, fun w => by kernel_rfl⟩
  · exact ⟨_, Try.underlying65, fun w => by kernel_rfl⟩
  · exact ⟨_, Try.underlying74, fun w => by kernel_rfl⟩
  · exact ⟨_, Try.underlying125, fun w => by kernel_rfl⟩
  · simp at h
theorem field_ok {t k off : Nat} (h : (flds t)[k]? = some (off, 1)) (cs : Array Value) (v : Value) (hv : cs[off]? = some v) (w : World) (hk : t = 47) : (Instr.field t (.agg cs) k).run Try.prog w = .ok v w := by
  subst hk
  simp only [flds] at h
  rcases k with _ | _ | k
  · simp at h
    subst h
    have e : ∀ w, (Instr.field 47 (.agg cs) 0).run Try.prog w = (match cs[0]? with | some v => pure v | none => stuck "part: no such cell" : Sem Value).run Try.prog w := fun w => by kernel_rfl
    rw [e, hv]
    rfl
  · simp at h
    subst h
    have e : ∀ w, (Instr.field 47 (.agg cs) 1).run Try.prog w = (match cs[1]? with | some v => pure v | none => stuck "part: no such cell" : Sem Value).run Try.prog w := fun w => by kernel_rfl
    rw [e, hv]
    rfl
  · simp at h
end Go.Proofs.Ytipfdcmjcelbiaa.Safe
end

section
/-! ## S3: The typed machine's state stands for the model's: what a step has to keep, and the steps that only reckon; no conditions. -/
set_option linter.unusedVariables false
set_option linter.unusedSimpArgs false
namespace Go.Proofs.Ytipfdcmjcelbiaa.Safe
open Go Go.RowKit

structure Rel (B : Base) (nt : Nat) (w0 : World) (S0 : Nat → Prop) (s : AS) (S : Nat → Prop) (L : Nat → Nat) (a : Act) (w : World) : Prop where
  defers : a.defers = []
  size : a.tmps.size = nt
  out : Out S0 w0 S w
  wt : WT S s.N w B
  tm : ∀ t, V3 s.M L S s.N w (s.T t) (a.tmps.getD t Go.undef)
  loc : ∀ b, (s.M b).2 ≠ [] → w0.heap.size ≤ L b ∧ ¬ S (L b) ∧ ∃ cells t, w.heap[L b]? = some (.cells cells t (0, 0)) ∧ F2 (SV S s.N w) (s.M b).2 cells.toList
  inj : ∀ b b', (s.M b).2 ≠ [] → (s.M b').2 ≠ [] → L b = L b' → b = b'
  big : 16 ≤ s.N
  base : Out B.S B.w S0 w0 ∧ B.N ≤ s.N
theorem Rel.P {B : Base} {nt : Nat} {w0 : World} {S0 : Nat → Prop} {s : AS} {S : Nat → Prop} {L : Nat → Nat} {a : Act} {w : World} (hR : Rel B nt w0 S0 s S L a w) : B.P S s.N w := ⟨hR.base.1.trans hR.out, hR.base.2⟩
theorem pas_of {x : AV} {M : Nat → Nat × List AV} {L : Nat → Nat} {S : Nat → Prop} {N : Nat} {w : World} {v : Value} (h : pas x = true) : V3 M L S N w x v ↔ V2 S N w x v := by
  cases x <;> first | (simp [pas] at h; done) | rfl
theorem V3_of_V2 {x : AV} {M : Nat → Nat × List AV} {L : Nat → Nat} {S : Nat → Prop} {N : Nat} {w : World} {v : Value} (h : V2 S N w x v) : V3 M L S N w x v := by
  cases x <;> first | exact h | exact (show False from h).elim
theorem V2_of_V1 {x : AV} {S : Nat → Prop} {N : Nat} {w : World} {v : Value} (h : V1 S N w x v) : V2 S N w x v := by
  cases x <;> first | exact h | exact (show False from h).elim
theorem V1_of_SV {x : AV} {S : Nat → Prop} {N : Nat} {w : World} {v : Value} (h : SV S N w x v) : V1 S N w x v := by
  cases x <;> first | exact h | exact (show False from h).elim
theorem one_of_SV {x : AV} {S : Nat → Prop} {N : Nat} {w : World} {v : Value} (h : SV S N w x v) (hx : ∀ l, cellsA x = some l → l = [x]) (hc : (cellsA x).isSome = true) : v.cells = #[v] ∧ v.oneCell' = true := by
  cases x <;> first
    | (simp [cellsA] at hc; done)
    | (obtain rfl := h; exact ⟨rfl, rfl⟩)
    | (obtain ⟨rfl, ⟨_, _, _, rfl⟩ | ⟨_, rfl⟩⟩ := h <;> exact ⟨rfl, rfl⟩)
    | (obtain ⟨_, rfl, _⟩ := h; exact ⟨rfl, rfl⟩)
    | (obtain ⟨_, _, rfl, _⟩ := h; exact ⟨rfl, rfl⟩)
    | exact (show False from h).elim
/-- A value's cells. -/
theorem cells_ok {x : AV} {M : Nat → Nat × List AV} {L : Nat → Nat} {S : Nat → Prop} {N : Nat} {w : World} {v : Value} {l : List AV} (h : V3 M L S N w x v) (hc : cellsA x = some l) : F2 (SV S N w) l v.cells.toList := by
  cases x with
  | agg l' => injection hc with hc; subst hc; obtain ⟨cs, rfl, hf⟩ := h; exact hf
  | int x => injection hc with hc; subst hc; obtain rfl := (show v = _ from h); exact ⟨rfl, trivial⟩
  | byte x => injection hc with hc; subst hc; obtain rfl := (show v = _ from h); exact ⟨rfl, trivial⟩
  | bool x => injection hc with hc; subst hc; obtain rfl := (show v = _ from h); exact ⟨rfl, trivial⟩
  | str n => injection hc with hc; subst hc; obtain ⟨s, rfl, hs⟩ := h; exact ⟨⟨s, rfl, hs⟩, trivial⟩
  | sl e n => injection hc with hc; subst hc; obtain ⟨A, c, rfl, hs⟩ := h; exact ⟨⟨A, c, rfl, hs⟩, trivial⟩
  | lit u => injection hc with hc; subst hc; obtain ⟨rfl, hu⟩ := (show SV S N w (.lit u) v from h); obtain ⟨_, _, _, rfl⟩ | ⟨_, rfl⟩ := hu <;> exact ⟨⟨rfl, by first | exact .inl ⟨_, _, _, rfl⟩ | exact .inr ⟨_, rfl⟩⟩, trivial⟩
  | any => cases hc
  | undef => cases hc
  | tup _ => cases hc
  | ptr _ _ _ => cases hc
  | osl _ _ _ => cases hc
  | optr _ _ _ => cases hc
  | row _ _ => cases hc
  | rd => cases hc
theorem annX_ok {t : Nat} {x : Operand} {y : X} (h : annX t x = some y) {B : Base} {nt : Nat} {w0 : World} {S0 : Nat → Prop} {s : AS} {S : Nat → Prop} {L : Nat → Nat} {a : Act} {w : World} (hR : Rel B nt w0 S0 s S L a w) : V3 s.M L S s.N w (ev s.T y) (a.eval x) := by
  cases x with
  | tmp n =>
    simp only [annX, Option.some.injEq] at h
    subst h
    exact hR.tm n
  | const v =>
    simp only [annX, Option.map_eq_some_iff] at h
    obtain ⟨u, hu, rfl⟩ := h
    show V3 _ _ _ _ _ u v
    unfold annV at hu
    split at hu
    · injection hu with hu; subst hu; rfl
    · injection hu with hu; subst hu; rfl
    · injection hu with hu; subst hu; exact ⟨_, rfl, rfl⟩
    · simp only [Option.map_eq_some_iff] at hu
      obtain ⟨e, he, rfl⟩ := hu
      exact ⟨none, 0, rfl, slt0 S s.N w (slel_ok he).2⟩
    · cases hu
  | global g => cases h
  | func f => cases h
section
variable {B : Base} {nt : Nat} {w0 : World} {S0 : Nat → Prop} {s : AS} {S : Nat → Prop} {L : Nat → Nat} {a : Act} {w : World}
theorem getD_put (a : Act) (d : Option Tmp) (v : Value) (hd : ∀ k, d = some k → k < a.tmps.size) (t : Nat) : (a.put d v).tmps.getD t Go.undef = if d = some t then v else a.tmps.getD t Go.undef := by
  cases d with
  | none => simp [Act.put]
  | some k =>
    have := hd k rfl
    simp only [Act.put, Array.getD_eq_getD_getElem?, Array.getElem?_setIfInBounds, Option.some.injEq]
    by_cases e : k = t
    · subst e
      simp [this]
    · simp [e]
theorem Rel.put (hR : Rel B nt w0 S0 s S L a w) {d : Option Tmp} {v : Value} {r : AV} (hd : ∀ k, d = some k → k < nt) (hv : V3 s.M L S s.N w r v) : Rel B nt w0 S0 ⟨putA s.T d r, s.M, s.N⟩ S L (a.put d v) w where
  defers := by cases d <;> exact hR.defers
  size := by cases d <;> simp [Act.put, hR.size]
  out := hR.out
  wt := hR.wt
  tm := fun t => by
    rw [getD_put a d v (by rw [hR.size]; exact hd)]
    cases d with
    | none => simp only [putA]; exact hR.tm t
    | some k =>
      simp only [putA, upd, Option.some.injEq]
      by_cases e : k = t
      · subst e
        rw [if_pos rfl, if_pos rfl]
        exact hv
      · rw [if_neg e, if_neg (Ne.symm e)]
        exact hR.tm t
  loc := hR.loc
  inj := hR.inj
  big := hR.big
  base := hR.base
theorem WT.same {S : Nat → Prop} {N N' : Nat} {B : Base} {w w' : World} (h : WT S N w B) (hn : N ≤ N') (hz : w.heap.size ≤ w'.heap.size) (hh : ∀ k, k < w.heap.size → w'.heap[k]? = w.heap[k]?) : WT S N' w' B := by
  have hG : Gro S N w S N' w' := ⟨fun _ h => h, hn, fun k e m hk hb => by
    obtain ⟨c, hc, hm⟩ := hb
    exact ⟨c, (hh k (h.lt hk)).trans hc, hm⟩⟩
  intro k hk
  refine ⟨(h k hk).1, ?_⟩
  rcases (h k hk).2 with ⟨e, cells, hc, hf⟩ | ⟨A, n, c, p, hc, h1, h2, h4⟩
  · exact .inl ⟨e, cells, (hh k (h.lt hk)).trans hc, hf.gro hG⟩
  · exact .inr ⟨A, n, c, p, (hh k (h.lt hk)).trans hc, h1, by omega, h4.gro hz (fun k _ hk => hh k hk)⟩
/-- Out of a stretch that leaves blocks of one's own alone. -/
theorem Rel.to {S' : Nat → Prop} {w' : World} {N' : Nat} (hR : Rel B nt w0 S0 s S L a w) (hO : Out S w S' w') (hW : WT S' N' w' B) (hn : s.N ≤ N') : Rel B nt w0 S0 ⟨s.T, s.M, N'⟩ S' L a w' where
  defers := hR.defers
  size := hR.size
  out := hR.out.trans hO
  wt := hW
  tm := fun t => V3.gro (hO.gro hn) (hR.tm t)
  loc := fun b hb => by
    obtain ⟨h1, h2, cells, t, h3, h4⟩ := hR.loc b hb
    have hl : L b < w.heap.size := by
      rcases Nat.lt_or_ge (L b) w.heap.size with hl | hl
      · exact hl
      · rw [Array.getElem?_eq_none hl] at h3; cases h3
    exact ⟨h1, hO.notS hl h2, cells, t, (hO.keep _ hl h2).trans h3, F2.imp (fun _ _ => SV.gro (hO.gro hn)) h4⟩
  inj := hR.inj
  big := Nat.le_trans hR.big hn
  base := ⟨hR.base.1, Nat.le_trans hR.base.2 hn⟩
end

/-! ### steps that give a value and leave the world -/
section
variable {B : Base} {nt : Nat} {w0 : World} {S0 : Nat → Prop} {s : AS} {S : Nat → Prop} {L : Nat → Nat} {a : Act} {w : World} {o : Oper} {K : AS → Prop} {Q : Exit → Act → World → Prop}
/-- What a step has to come to. -/
abbrev Goal (B : Base) (nt : Nat) (w0 : World) (S0 : Nat → Prop) (K : AS → Prop) : Act → World → Prop := fun a' w' => ∃ s' S' L', K s' ∧ Rel B nt w0 S0 s' S' L' a' w'
theorem wp_val {v : Value} {w' : World} {KK : Act → World → Prop} (hrun : (execOp a.eval o).run Try.prog w = .ok (.value v) w') (h : KK (a.put o.dst v) w') : o.wp Try.prog a w KK Q := by
  unfold Oper.wp
  rw [hrun]
  exact h
theorem wp_skp {w' : World} {KK : Act → World → Prop} (hrun : (execOp a.eval o).run Try.prog w = .ok .skip w') (h : KK (a.put o.dst Go.undef) w') : o.wp Try.prog a w KK Q := by
  unfold Oper.wp
  rw [hrun]
  exact h
theorem pure_fin (hR : Rel B nt w0 S0 s S L a w) (hd : ∀ k, o.dst = some k → k < nt) {v : Value} {r : AV} (hrun : (execOp a.eval o).run Try.prog w = .ok (.value v) w) (hv : V3 s.M L S s.N w r v) (hK : K ⟨putA s.T o.dst r, s.M, s.N⟩) : o.wp Try.prog a w (Goal B nt w0 S0 K) Q :=
  wp_val hrun ⟨_, S, L, hK, hR.put hd hv⟩
theorem op_mv (hR : Rel B nt w0 S0 s S L a w) (hd : ∀ k, o.dst = some k → k < nt) {x : Operand} {y : X} (hop : o.op = .move x ∨ o.op = .assign x) (hx : V3 s.M L S s.N w (ev s.T y) (a.eval x)) (hK : K ⟨putA s.T o.dst (ev s.T y), s.M, s.N⟩) : o.wp Try.prog a w (Goal B nt w0 S0 K) Q :=
  pure_fin hR hd (by rcases hop with hop | hop <;> simp [execOp, hop]) hx hK
theorem op_pick (hR : Rel B nt w0 S0 s S L a w) (hd : ∀ k, o.dst = some k → k < nt) {c x y : Operand} (hop : o.op = .pick c x y) {t : Bool} {u v : AV} (hc : V3 s.M L S s.N w (.bool t) (a.eval c)) (hx : V3 s.M L S s.N w u (a.eval x)) (hy : V3 s.M L S s.N w v (a.eval y)) (hK : K ⟨putA s.T o.dst (cond t u v), s.M, s.N⟩) : o.wp Try.prog a w (Goal B nt w0 S0 K) Q := by
  have hc' : a.eval c = .bool t := hc
  refine pure_fin hR hd (v := if t then a.eval x else a.eval y) (r := cond t u v) (by simp [execOp, hop, hc', asBool]) ?_ hK
  cases t
  · exact hy
  · exact hx
def val : AV → Value
  | .int x => .int .i64 x
  | .bool b => .bool b
  | _ => Go.undef
theorem pure_val (hR : Rel B nt w0 S0 s S L a w) (hd : ∀ k, o.dst = some k → k < nt) {r : AV} (hrun : (execOp a.eval o).run Try.prog w = .ok (.value (val r)) w) (hK : K ⟨putA s.T o.dst r, s.M, s.N⟩) (hv : V3 s.M L S s.N w r (val r)) : o.wp Try.prog a w (Goal B nt w0 S0 K) Q :=
  pure_fin hR hd hrun hv hK
theorem wrap_eq (n : Int) : IntKind.i64.wrap n = wrap64 n := by unfold wrap64; exact IntKind.wrap_i64 n
theorem beq_dec (m n : Int) : (m == n) = decide (m = n) := by by_cases h : m = n <;> simp [h]
theorem bne_dec (m n : Int) : (m != n) = !decide (m = n) := by rw [bne, beq_dec]
theorem op_binI (hR : Rel B nt w0 S0 s S L a w) (hd : ∀ k, o.dst = some k → k < nt) {op : BinOp} {t t' : Nat} {x y : Operand} (hop : o.op = .binOp op t x y t') {m n : Int} (hx : V3 s.M L S s.N w (.int m) (a.eval x)) (hy : V3 s.M L S s.N w (.int n) (a.eval y)) (hK : runD (binI op m n) o.dst s K) : o.wp Try.prog a w (Goal B nt w0 S0 K) Q := by
  have hx' : a.eval x = .int .i64 m := hx
  have hy' : a.eval y = .int .i64 n := hy
  cases op <;> simp only [binI, runD] at hK <;> first
    | (exact hK.elim)
    | exact pure_val hR hd (by have h0 := hK.1; simp [execOp, hop, hx', hy', eqGuard, Go.binOp, Op.intArith, Op.intDiv, Op.intCmp, wrap_eq, val, h0, beq_dec, bne_dec]; done) (hK.2 _ rfl) rfl
theorem op_binB (hR : Rel B nt w0 S0 s S L a w) (hd : ∀ k, o.dst = some k → k < nt) {op : BinOp} {t' : Nat} {x y : Operand} (hop : o.op = .binOp op 4 x y t') {m n : Bool} (hx : V3 s.M L S s.N w (.bool m) (a.eval x)) (hy : V3 s.M L S s.N w (.bool n) (a.eval y)) (hK : runD (binB op m n) o.dst s K) : o.wp Try.prog a w (Goal B nt w0 S0 K) Q := by
  have hx' : a.eval x = .bool m := hx
  have hy' : a.eval y = .bool n := hy
  have e : ∀ w, (Op.equal 4 (.bool m) (.bool n)).run Try.prog w = .ok (m == n) w := fun w => by kernel_rfl
  cases op <;> simp only [binB, runD] at hK <;> first
    | (exact hK.elim)
    | exact pure_val hR hd (by simp [execOp, hop, hx', hy', eqGuard, Go.binOp, e, val]; done) (hK.2 _ rfl) rfl
theorem op_binS (hR : Rel B nt w0 S0 s S L a w) (hd : ∀ k, o.dst = some k → k < nt) {op : BinOp} {t t' : Nat} {x y : Operand} (hop : o.op = .binOp op t x y t') {m n : Nat} (hx : V3 s.M L S s.N w (.str m) (a.eval x)) (hy : V3 s.M L S s.N w (.str n) (a.eval y)) (hK : runD (binS op m n) o.dst s K) : o.wp Try.prog a w (Goal B nt w0 S0 K) Q := by
  obtain ⟨x1, hx', hm⟩ := (show SV S s.N w (.str m) _ from hx)
  obtain ⟨y1, hy', hn⟩ := (show SV S s.N w (.str n) _ from hy)
  cases op with
  | add =>
    simp only [binS, runD] at hK
    have h := hK.1
    have g : ¬ (9223372036854775807 < ((x1.size : Int) + (y1.size : Int))) := by omega
    have e : (execOp a.eval o).run Try.prog w = .ok (.value (.string (x1 ++ y1))) w := by
      have h2 : IntKind.i64.max = 9223372036854775807 := by decide
      simp [execOp, hop, hx', hy', eqGuard, Go.binOp, Op.stringOp, h2]
      omega
    exact pure_fin hR hd e (r := .str (m + n)) ⟨_, rfl, by rw [ByteArray.size_append, hm, hn]⟩ (hK.2 _ rfl)
  | eql =>
    have e : (execOp a.eval o).run Try.prog w = .ok (.value (.bool (x1.toList == y1.toList))) w := by simp [execOp, hop, hx', hy', eqGuard, Go.binOp, Op.stringOp]
    exact pure_fin hR hd (r := .bool (x1.toList == y1.toList)) e rfl (hK.2 _ ⟨_, rfl⟩)
  | neq =>
    have e : (execOp a.eval o).run Try.prog w = .ok (.value (.bool (!(x1.toList == y1.toList)))) w := by simp [execOp, hop, hx', hy', eqGuard, Go.binOp, Op.stringOp]
    exact pure_fin hR hd (r := .bool (!(x1.toList == y1.toList))) e rfl (hK.2 _ ⟨_, rfl⟩)
  | _ => exact hK.elim
theorem op_un (hR : Rel B nt w0 S0 s S L a w) (hd : ∀ k, o.dst = some k → k < nt) {op : UnOp} {t : Nat} {x : Operand} (hop : o.op = .unOp op t x) {u : AV} (hx : V3 s.M L S s.N w u (a.eval x)) (hK : runD (unD op u) o.dst s K) : o.wp Try.prog a w (Goal B nt w0 S0 K) Q := by
  cases op <;> cases u <;> simp only [unD, runD] at hK <;> first
    | (exact hK.elim)
    | (have hx' : a.eval x = .int .i64 _ := hx
       exact pure_val hR hd (by simp [execOp, hop, hx', Op.unary, Op.intArith, wrap_eq, val]; done) (hK.2 _ rfl) rfl)
    | (have hx' : a.eval x = .bool _ := hx
       exact pure_val hR hd (by simp [execOp, hop, hx', Op.unary, val]; done) (hK.2 _ rfl) rfl)
end
end Go.Proofs.Ytipfdcmjcelbiaa.Safe
end

section
/-! ## S4: The typed machine's steps that read: structs compared, parts, slices, addresses, loads; no conditions. -/
set_option linter.unusedVariables false
set_option linter.unusedSimpArgs false
namespace Go.Proofs.Ytipfdcmjcelbiaa.Safe
open Go Go.RowKit Go.Proofs.YtipfdcmjcelbiaaW.PrintWords

theorem eqInt (d : Nat) (p q : Int) (w : World) : (Op.equalIn (d + 1) 3 (.int .i64 p) (.int .i64 q)).run Try.prog w = .ok (p == q) w := by kernel_rfl
theorem eq47 (d : Nat) (p q p' q' : Int) (w : World) : (Op.equalIn (d + 2) 47 (.agg #[.int .i64 p, .int .i64 q]) (.agg #[.int .i64 p', .int .i64 q'])).run Try.prog w = .ok ((p == p') && (q == q')) w := by
  refine eqA_of Try.underlying47 (by kernel_rfl) ?_
  exact eqf_cons (by kernel_rfl) (by kernel_rfl) (by kernel_rfl) (eqInt d _ _ w) (eqf_last (by kernel_rfl) (by kernel_rfl) (by kernel_rfl) (eqInt d _ _ w))
theorem eq49 (d : Nat) (a b c e f g a' b' c' e' f' g' : Int) (w : World) : (Op.equalIn (d + 3) 49 (.agg #[.int .i64 a, .int .i64 b, .int .i64 c, .int .i64 e, .int .i64 f, .int .i64 g]) (.agg #[.int .i64 a', .int .i64 b', .int .i64 c', .int .i64 e', .int .i64 f', .int .i64 g'])).run Try.prog w = .ok ((a == a') && (((b == b') && (c == c')) && (((e == e') && (f == f')) && (g == g')))) w := by
  refine eqA_of Try.underlying49 (by kernel_rfl) ?_
  refine eqf_cons (by kernel_rfl) (by kernel_rfl) (by kernel_rfl) (eqInt (d + 1) _ _ w) ?_
  refine eqf_cons (by kernel_rfl) (by kernel_rfl) (by kernel_rfl) (eq47 d _ _ _ _ w) ?_
  refine eqf_cons (by kernel_rfl) (by kernel_rfl) (by kernel_rfl) (eq47 d _ _ _ _ w) ?_
  exact eqf_last (by kernel_rfl) (by kernel_rfl) (by kernel_rfl) (eqInt (d + 1) _ _ w)
theorem guard47 (op : BinOp) (x y : Operand) (u v : Array Value) (w : World) : (eqGuard op 47 x y (.agg u) (.agg v)).run Try.prog w = .ok () w := by
  cases op <;> kernel_rfl
theorem guard49 (op : BinOp) (x y : Operand) (u v : Array Value) (w : World) : (eqGuard op 49 x y (.agg u) (.agg v)).run Try.prog w = .ok () w := by
  cases op <;> kernel_rfl
section
variable {B : Base} {nt : Nat} {w0 : World} {S0 : Nat → Prop} {s : AS} {S : Nat → Prop} {L : Nat → Nat} {a : Act} {w : World} {o : Oper} {K : AS → Prop} {Q : Exit → Act → World → Prop}
theorem ints_vals {N : Nat} {w : World} : ∀ {l : List AV} {cs : List Value}, ints l = true → F2 (SV S N w) l cs → ∃ ns : List Int, cs = ns.map (.int .i64 ·) ∧ ns.length = l.length
  | [], [], _, _ => ⟨[], rfl, rfl⟩
  | .int x :: l, v :: cs, h, hf => by
    obtain ⟨ns, e, hl⟩ := ints_vals (l := l) (cs := cs) h hf.2
    obtain rfl := (show v = .int .i64 x from hf.1)
    exact ⟨x :: ns, by rw [e]; rfl, by simp [hl]⟩
  | [], _ :: _, _, hf => hf.elim
theorem op_binA (hR : Rel B nt w0 S0 s S L a w) (hd : ∀ k, o.dst = some k → k < nt) {op : BinOp} {t t' : Nat} {x y : Operand} (hop : o.op = .binOp op t x y t') {l m : List AV} (hx : V3 s.M L S s.N w (.agg l) (a.eval x)) (hy : V3 s.M L S s.N w (.agg m) (a.eval y)) (hK : runD (binA op t l m) o.dst s K) : o.wp Try.prog a w (Goal B nt w0 S0 K) Q := by
  obtain ⟨cs, hx', hf⟩ := (show V1 S s.N w (.agg l) _ from hx)
  obtain ⟨ds, hy', hg⟩ := (show V1 S s.N w (.agg m) _ from hy)
  have key : ((t = 47 ∧ l.length = 2 ∧ m.length = 2 ∨ t = 49 ∧ l.length = 6 ∧ m.length = 6) ∧ ints l = true ∧ ints m = true) → ∃ b, ∀ w, (eqGuard op t x y (.agg cs.toArray) (.agg ds.toArray)).run Try.prog w = .ok () w ∧ (Op.equal t (.agg cs.toArray) (.agg ds.toArray)).run Try.prog w = .ok b w := by
    rintro ⟨ht, hl, hm⟩
    obtain ⟨ns, rfl, h1⟩ := ints_vals hl hf
    obtain ⟨ms, rfl, h2⟩ := ints_vals hm hg
    rcases ht with ⟨rfl, e1, e2⟩ | ⟨rfl, e1, e2⟩
    · match ns, ms, h1.trans e1, h2.trans e2 with
      | [p, q], [p', q'], _, _ => exact ⟨_, fun w => ⟨guard47 _ _ _ _ _ _, eq47 9998 p q p' q' w⟩⟩
    · match ns, ms, h1.trans e1, h2.trans e2 with
      | [b, c, d, e, f, g], [b', c', d', e', f', g'], _, _ => exact ⟨_, fun w => ⟨guard49 _ _ _ _ _ _, eq49 9997 b c d e f g b' c' d' e' f' g' w⟩⟩
  cases op with
  | eql =>
    obtain ⟨b, hb⟩ := key hK.1
    exact pure_fin hR hd (v := .bool b) (r := .bool b) (by simp [execOp, hop, hx', hy', (hb _).1, Go.binOp, (hb _).2]) rfl (hK.2 _ ⟨_, rfl⟩)
  | neq =>
    obtain ⟨b, hb⟩ := key hK.1
    exact pure_fin hR hd (v := .bool (!b)) (r := .bool (!b)) (by simp [execOp, hop, hx', hy', (hb _).1, Go.binOp, (hb _).2]) rfl (hK.2 _ ⟨_, rfl⟩)
  | _ => exact hK.elim
theorem op_cvt (hR : Rel B nt w0 S0 s S L a w) (hd : ∀ k, o.dst = some k → k < nt) {x : Operand} (hop : o.op = .convert 5 3 x) {b : Int} (hx : V3 s.M L S s.N w (.byte b) (a.eval x)) (hK : K ⟨putA s.T o.dst (.int (wrap64 b)), s.M, s.N⟩) : o.wp Try.prog a w (Goal B nt w0 S0 K) Q := by
  have hx' : a.eval x = .int .u8 b := hx
  have e : ∀ w, (Go.convert 5 3 (.int .u8 b)).run Try.prog w = .ok (.int .i64 (IntKind.i64.wrap b)) w := fun w => by kernel_rfl
  exact pure_fin hR hd (v := .int .i64 (wrap64 b)) (r := .int (wrap64 b)) (by simp [execOp, hop, hx', e, wrap_eq]) rfl hK
theorem op_ext (hR : Rel B nt w0 S0 s S L a w) (hd : ∀ k, o.dst = some k → k < nt) {x : Operand} {k : Nat} (hop : o.op = .extract x k) {l : List AV} {u : AV} (hx : V3 s.M L S s.N w (.tup l) (a.eval x)) (hl : l[k]? = some u) (hK : K ⟨putA s.T o.dst u, s.M, s.N⟩) : o.wp Try.prog a w (Goal B nt w0 S0 K) Q := by
  obtain ⟨cs, hx', hf⟩ := (show V2 S s.N w (.tup l) _ from hx)
  obtain ⟨v, hv, hs⟩ := F2.get hf hl
  exact pure_fin hR hd (v := v) (r := u) (by simp [execOp, hop, hx', Instr.extract, hv]) (V3_of_V2 (V2_of_V1 hs)) hK
theorem op_fld (hR : Rel B nt w0 S0 s S L a w) (hd : ∀ k, o.dst = some k → k < nt) {x : Operand} {k off : Nat} (hop : o.op = .field 47 x k) (hk : (flds 47)[k]? = some (off, 1)) {l : List AV} (hx : V3 s.M L S s.N w (.agg l) (a.eval x)) (hl : off + 1 ≤ l.length) (hK : K ⟨putA s.T o.dst (mk false ((l.drop off).take 1)), s.M, s.N⟩) : o.wp Try.prog a w (Goal B nt w0 S0 K) Q := by
  obtain ⟨cs, hx', hf⟩ := (show V1 S s.N w (.agg l) _ from hx)
  have hu : l[off]? = some l[off] := List.getElem?_eq_getElem (by omega)
  obtain ⟨v, hv, hs⟩ := F2.get hf hu
  have e : mk false ((l.drop off).take 1) = l[off] := by
    rw [List.drop_eq_getElem_cons (show off < l.length by omega)]
    rfl
  rw [e] at hK
  exact pure_fin hR hd (v := v) (r := l[off]) (by simp [execOp, hop, hx', field_ok hk cs.toArray v (by simpa using hv) _ rfl]) (V3_of_V2 (V2_of_V1 (V1_of_SV hs))) hK
theorem esz_info {e : Nat} (h : 0 < esz e) : ∃ i z, Try.prog.info? e = some i ∧ i.size = esz e ∧ i.zero = some z ∧ z.cells.size = esz e ∧ 0 < i.bytes ∧ i.bytes ≤ 128 ∧ ∀ S N w, ∀ j, j < esz e → ∃ v t, z.cells[j]? = some v ∧ (lay e)[j]? = some t ∧ CV S N w t v := by
  unfold esz lay at h
  split at h
  · obtain ⟨i, hi, he⟩ := Option.map_eq_some_iff.1 (show (Try.prog.info? 3).map (fun i => (i.size, i.zero, decide (0 < i.bytes ∧ i.bytes ≤ 128))) = some (1, some (.int .i64 0), true) by kernel_rfl)
    simp only [Prod.mk.injEq, decide_eq_true_eq] at he
    refine ⟨i, _, hi, he.1, he.2.1, rfl, he.2.2.1, he.2.2.2, fun S N w j hj => ?_⟩
    match j, hj with
    | 0, _ => exact ⟨_, _, rfl, rfl, ⟨0, by decide, rfl⟩⟩
  · obtain ⟨i, hi, he⟩ := Option.map_eq_some_iff.1 (show (Try.prog.info? 4).map (fun i => (i.size, i.zero, decide (0 < i.bytes ∧ i.bytes ≤ 128))) = some (1, some (.bool false), true) by kernel_rfl)
    simp only [Prod.mk.injEq, decide_eq_true_eq] at he
    refine ⟨i, _, hi, he.1, he.2.1, rfl, he.2.2.1, he.2.2.2, fun S N w j hj => ?_⟩
    match j, hj with
    | 0, _ => exact ⟨_, _, rfl, rfl, ⟨_, rfl⟩⟩
  · obtain ⟨i, hi, he⟩ := Option.map_eq_some_iff.1 (show (Try.prog.info? 5).map (fun i => (i.size, i.zero, decide (0 < i.bytes ∧ i.bytes ≤ 128))) = some (1, some (.int .u8 0), true) by kernel_rfl)
    simp only [Prod.mk.injEq, decide_eq_true_eq] at he
    refine ⟨i, _, hi, he.1, he.2.1, rfl, he.2.2.1, he.2.2.2, fun S N w j hj => ?_⟩
    match j, hj with
    | 0, _ => exact ⟨_, _, rfl, rfl, ⟨_, rfl⟩⟩
  · obtain ⟨i, hi, he⟩ := Option.map_eq_some_iff.1 (show (Try.prog.info? 9).map (fun i => (i.size, i.zero, decide (0 < i.bytes ∧ i.bytes ≤ 128))) = some (1, some (.string ⟨#[]⟩), true) by kernel_rfl)
    simp only [Prod.mk.injEq, decide_eq_true_eq] at he
    refine ⟨i, _, hi, he.1, he.2.1, rfl, he.2.2.1, he.2.2.2, fun S N w j hj => ?_⟩
    match j, hj with
    | 0, _ => exact ⟨_, _, rfl, rfl, ⟨_, by decide, rfl⟩⟩
  · obtain ⟨i, hi, he⟩ := Option.map_eq_some_iff.1 (show (Try.prog.info? 27).map (fun i => (i.size, i.zero, decide (0 < i.bytes ∧ i.bytes ≤ 128))) = some (6, some (.agg #[.int .i64 0, .int .i64 0, .slice none 0 0, .int .i64 0, .slice none 0 0, .slice none 0 0]), true) by kernel_rfl)
    simp only [Prod.mk.injEq, decide_eq_true_eq] at he
    refine ⟨i, _, hi, he.1, he.2.1, rfl, he.2.2.1, he.2.2.2, fun S N w j hj => ?_⟩
    match j, hj with
    | 0, _ => exact ⟨_, _, rfl, rfl, ⟨_, rfl⟩⟩
    | 1, _ => exact ⟨_, _, rfl, rfl, ⟨_, rfl⟩⟩
    | 2, _ => exact ⟨_, _, rfl, rfl, ⟨none, 0, 0, rfl, slt0 S N w (by decide)⟩⟩
    | 3, _ => exact ⟨_, _, rfl, rfl, ⟨_, rfl⟩⟩
    | 4, _ => exact ⟨_, _, rfl, rfl, ⟨none, 0, 0, rfl, slt0 S N w (by decide)⟩⟩
    | 5, _ => exact ⟨_, _, rfl, rfl, ⟨none, 0, 0, rfl, slt0 S N w (by decide)⟩⟩
  · obtain ⟨i, hi, he⟩ := Option.map_eq_some_iff.1 (show (Try.prog.info? 41).map (fun i => (i.size, i.zero, decide (0 < i.bytes ∧ i.bytes ≤ 128))) = some (3, some (.agg #[.int .i64 0, .int .i64 0, .int .i64 0]), true) by kernel_rfl)
    simp only [Prod.mk.injEq, decide_eq_true_eq] at he
    refine ⟨i, _, hi, he.1, he.2.1, rfl, he.2.2.1, he.2.2.2, fun S N w j hj => ?_⟩
    match j, hj with
    | 0, _ => exact ⟨_, _, rfl, rfl, ⟨_, rfl⟩⟩
    | 1, _ => exact ⟨_, _, rfl, rfl, ⟨_, rfl⟩⟩
    | 2, _ => exact ⟨_, _, rfl, rfl, ⟨_, rfl⟩⟩
  · obtain ⟨i, hi, he⟩ := Option.map_eq_some_iff.1 (show (Try.prog.info? 47).map (fun i => (i.size, i.zero, decide (0 < i.bytes ∧ i.bytes ≤ 128))) = some (2, some (.agg #[.int .i64 0, .int .i64 0]), true) by kernel_rfl)
    simp only [Prod.mk.injEq, decide_eq_true_eq] at he
    refine ⟨i, _, hi, he.1, he.2.1, rfl, he.2.2.1, he.2.2.2, fun S N w j hj => ?_⟩
    match j, hj with
    | 0, _ => exact ⟨_, _, rfl, rfl, ⟨0, by decide, rfl⟩⟩
    | 1, _ => exact ⟨_, _, rfl, rfl, ⟨0, by decide, rfl⟩⟩
  · obtain ⟨i, hi, he⟩ := Option.map_eq_some_iff.1 (show (Try.prog.info? 49).map (fun i => (i.size, i.zero, decide (0 < i.bytes ∧ i.bytes ≤ 128))) = some (6, some (.agg #[.int .i64 0, .int .i64 0, .int .i64 0, .int .i64 0, .int .i64 0, .int .i64 0]), true) by kernel_rfl)
    simp only [Prod.mk.injEq, decide_eq_true_eq] at he
    refine ⟨i, _, hi, he.1, he.2.1, rfl, he.2.2.1, he.2.2.2, fun S N w j hj => ?_⟩
    match j, hj with
    | 0, _ => exact ⟨_, _, rfl, rfl, ⟨0, by decide, rfl⟩⟩
    | 1, _ => exact ⟨_, _, rfl, rfl, ⟨0, by decide, rfl⟩⟩
    | 2, _ => exact ⟨_, _, rfl, rfl, ⟨0, by decide, rfl⟩⟩
    | 3, _ => exact ⟨_, _, rfl, rfl, ⟨0, by decide, rfl⟩⟩
    | 4, _ => exact ⟨_, _, rfl, rfl, ⟨0, by decide, rfl⟩⟩
    | 5, _ => exact ⟨_, _, rfl, rfl, ⟨0, by decide, rfl⟩⟩
  · obtain ⟨i, hi, he⟩ := Option.map_eq_some_iff.1 (show (Try.prog.info? 52).map (fun i => (i.size, i.zero, decide (0 < i.bytes ∧ i.bytes ≤ 128))) = some (11, some (.agg #[.int .i64 0, .int .i64 0, .int .i64 0, .int .i64 0, .int .i64 0, .int .i64 0, .int .i64 0, .int .i64 0, .int .i64 0, .int .i64 0, .slice none 0 0]), true) by kernel_rfl)
    simp only [Prod.mk.injEq, decide_eq_true_eq] at he
    refine ⟨i, _, hi, he.1, he.2.1, rfl, he.2.2.1, he.2.2.2, fun S N w j hj => ?_⟩
    match j, hj with
    | 0, _ => exact ⟨_, _, rfl, rfl, ⟨_, rfl⟩⟩
    | 1, _ => exact ⟨_, _, rfl, rfl, ⟨_, rfl⟩⟩
    | 2, _ => exact ⟨_, _, rfl, rfl, ⟨_, rfl⟩⟩
    | 3, _ => exact ⟨_, _, rfl, rfl, ⟨_, rfl⟩⟩
    | 4, _ => exact ⟨_, _, rfl, rfl, ⟨_, rfl⟩⟩
    | 5, _ => exact ⟨_, _, rfl, rfl, ⟨_, rfl⟩⟩
    | 6, _ => exact ⟨_, _, rfl, rfl, ⟨_, rfl⟩⟩
    | 7, _ => exact ⟨_, _, rfl, rfl, ⟨_, rfl⟩⟩
    | 8, _ => exact ⟨_, _, rfl, rfl, ⟨_, rfl⟩⟩
    | 9, _ => exact ⟨_, _, rfl, rfl, ⟨_, rfl⟩⟩
    | 10, _ => exact ⟨_, _, rfl, rfl, ⟨none, 0, 0, rfl, slt0 S N w (by decide)⟩⟩
  · obtain ⟨i, hi, he⟩ := Option.map_eq_some_iff.1 (show (Try.prog.info? 57).map (fun i => (i.size, i.zero, decide (0 < i.bytes ∧ i.bytes ≤ 128))) = some (1, some (.slice none 0 0), true) by kernel_rfl)
    simp only [Prod.mk.injEq, decide_eq_true_eq] at he
    refine ⟨i, _, hi, he.1, he.2.1, rfl, he.2.2.1, he.2.2.2, fun S N w j hj => ?_⟩
    match j, hj with
    | 0, _ => exact ⟨_, _, rfl, rfl, ⟨none, 0, 0, rfl, slt0 S N w (by decide)⟩⟩
  · obtain ⟨i, hi, he⟩ := Option.map_eq_some_iff.1 (show (Try.prog.info? 63).map (fun i => (i.size, i.zero, decide (0 < i.bytes ∧ i.bytes ≤ 128))) = some (8, some (.agg #[.int .i64 0, .int .i64 0, .int .i64 0, .int .i64 0, .int .i64 0, .int .i64 0, .int .i64 0, .slice none 0 0]), true) by kernel_rfl)
    simp only [Prod.mk.injEq, decide_eq_true_eq] at he
    refine ⟨i, _, hi, he.1, he.2.1, rfl, he.2.2.1, he.2.2.2, fun S N w j hj => ?_⟩
    match j, hj with
    | 0, _ => exact ⟨_, _, rfl, rfl, ⟨_, rfl⟩⟩
    | 1, _ => exact ⟨_, _, rfl, rfl, ⟨_, rfl⟩⟩
    | 2, _ => exact ⟨_, _, rfl, rfl, ⟨_, rfl⟩⟩
    | 3, _ => exact ⟨_, _, rfl, rfl, ⟨_, rfl⟩⟩
    | 4, _ => exact ⟨_, _, rfl, rfl, ⟨_, rfl⟩⟩
    | 5, _ => exact ⟨_, _, rfl, rfl, ⟨_, rfl⟩⟩
    | 6, _ => exact ⟨_, _, rfl, rfl, ⟨_, rfl⟩⟩
    | 7, _ => exact ⟨_, _, rfl, rfl, ⟨none, 0, 0, rfl, slt0 S N w (by decide)⟩⟩
  · obtain ⟨i, hi, he⟩ := Option.map_eq_some_iff.1 (show (Try.prog.info? 65).map (fun i => (i.size, i.zero, decide (0 < i.bytes ∧ i.bytes ≤ 128))) = some (9, some (.agg #[.int .i64 0, .int .i64 0, .int .i64 0, .int .i64 0, .int .i64 0, .int .i64 0, .int .i64 0, .slice none 0 0, .int .i64 0]), true) by kernel_rfl)
    simp only [Prod.mk.injEq, decide_eq_true_eq] at he
    refine ⟨i, _, hi, he.1, he.2.1, rfl, he.2.2.1, he.2.2.2, fun S N w j hj => ?_⟩
    match j, hj with
    | 0, _ => exact ⟨_, _, rfl, rfl, ⟨_, rfl⟩⟩
    | 1, _ => exact ⟨_, _, rfl, rfl, ⟨_, rfl⟩⟩
    | 2, _ => exact ⟨_, _, rfl, rfl, ⟨_, rfl⟩⟩
    | 3, _ => exact ⟨_, _, rfl, rfl, ⟨_, rfl⟩⟩
    | 4, _ => exact ⟨_, _, rfl, rfl, ⟨_, rfl⟩⟩
    | 5, _ => exact ⟨_, _, rfl, rfl, ⟨_, rfl⟩⟩
    | 6, _ => exact ⟨_, _, rfl, rfl, ⟨_, rfl⟩⟩
    | 7, _ => exact ⟨_, _, rfl, rfl, ⟨none, 0, 0, rfl, slt0 S N w (by decide)⟩⟩
    | 8, _ => exact ⟨_, _, rfl, rfl, ⟨_, rfl⟩⟩
  · obtain ⟨i, hi, he⟩ := Option.map_eq_some_iff.1 (show (Try.prog.info? 125).map (fun i => (i.size, i.zero, decide (0 < i.bytes ∧ i.bytes ≤ 128))) = some (2, some (.agg #[.slice none 0 0, .int .i64 0]), true) by kernel_rfl)
    simp only [Prod.mk.injEq, decide_eq_true_eq] at he
    refine ⟨i, _, hi, he.1, he.2.1, rfl, he.2.2.1, he.2.2.2, fun S N w j hj => ?_⟩
    match j, hj with
    | 0, _ => exact ⟨_, _, rfl, rfl, ⟨none, 0, 0, rfl, slt0 S N w (by decide)⟩⟩
    | 1, _ => exact ⟨_, _, rfl, rfl, ⟨_, rfl⟩⟩
  · simp at h
theorem op_len (hR : Rel B nt w0 S0 s S L a w) (hd : ∀ k, o.dst = some k → k < nt) {x : Operand} {t : Nat} {c : Call} (hop : o.op = .call c) (hcc : c.callee = .builtin .len) (hca : c.args.toList = [x]) (hct : c.argTypes.toList = [t]) (ht : (slel t).isSome = true ∨ t = 9) {u : AV} (hx : V3 s.M L S s.N w u (a.eval x)) {e n : Nat} (hu : (u = .sl e n ∧ t ≠ 9 ∨ u = .str n ∧ t = 9)) (hK : K ⟨putA s.T o.dst (.int (n : Int)), s.M, s.N⟩) : o.wp Try.prog a w (Goal B nt w0 S0 K) Q := by
  obtain rfl : c = { callee := .builtin .len, args := #[x], argTypes := #[t] } := by
    obtain ⟨c1, c2, c3⟩ := c
    simp only at hcc hca hct
    subst hcc
    have e1 : c2 = #[x] := by rw [← Array.toArray_toList (xs := c2), hca]
    have e2 : c3 = #[t] := by rw [← Array.toArray_toList (xs := c3), hct]
    rw [e1, e2]
  rcases hu with ⟨rfl, h9⟩ | ⟨rfl, rfl⟩
  · obtain ⟨A, c, hx', hs⟩ := (show SV S s.N w (.sl e n) _ from hx)
    obtain ⟨e', he⟩ := Option.isSome_iff_exists.1 (ht.resolve_right h9)
    exact pure_fin hR hd (v := .int .i64 n) (r := .int n) (by simp [execOp, hop, hx', resolve, invoke, builtin, Builtin.len_, run_underlying (slel_ok he).1, goInt]) rfl hK
  · obtain ⟨b, hx', hs⟩ := (show SV S s.N w (.str n) _ from hx)
    have e9 : Try.prog.underlying 9 = some .string := by kernel_rfl
    exact pure_fin hR hd (v := .int .i64 n) (r := .int n) (by simp [execOp, hop, hx', resolve, invoke, builtin, Builtin.len_, run_underlying e9, goInt, hs]) rfl hK
theorem op_idx (hR : Rel B nt w0 S0 s S L a w) (hd : ∀ k, o.dst = some k → k < nt) {x i : Operand} (hop : o.op = .index 9 x i) {n : Nat} {k : Int} (hx : V3 s.M L S s.N w (.str n) (a.eval x)) (hi : V3 s.M L S s.N w (.int k) (a.eval i)) (h0 : 0 ≤ k) (h1 : k < (n : Int)) (hK : ∀ b : Int, 0 ≤ b → b < 256 → K ⟨putA s.T o.dst (.byte b), s.M, s.N⟩) : o.wp Try.prog a w (Goal B nt w0 S0 K) Q := by
  obtain ⟨b, hx', hs⟩ := (show SV S s.N w (.str n) _ from hx)
  have hi' : a.eval i = .int .i64 k := hi
  have e9 : Try.prog.underlying 9 = some .string := by kernel_rfl
  have hk : k.toNat < b.size := by omega
  have hg : b[k.toNat]? = some b[k.toNat] := by simp [getElem?_pos, hk]
  have hlt : (b[k.toNat]).toNat < 256 := (b[k.toNat]).toNat_lt
  refine pure_fin hR hd (v := .int .u8 (b[k.toNat]).toNat) (r := .byte (b[k.toNat]).toNat) ?_ rfl (hK _ (by omega) (by omega))
  simp [execOp, hop, hx', hi', Instr.index, asIntOf, run_underlying e9, h0, hg]
theorem op_fa (hR : Rel B nt w0 S0 s S L a w) (hd : ∀ k, o.dst = some k → k < nt) {x : Operand} {t k off n : Nat} (hop : o.op = .fieldAddr t x k) (hk : (flds t)[k]? = some (off, n)) {b v p : Nat} (hx : V3 s.M L S s.N w (.ptr b v p) (a.eval x)) (hK : K ⟨putA s.T o.dst (.ptr b v (p + off)), s.M, s.N⟩) : o.wp Try.prog a w (Goal B nt w0 S0 K) Q := by
  obtain ⟨h1, g, hx', h2⟩ := hx
  exact pure_fin hR hd (v := .pointer (some ⟨g, p + off, none⟩)) (r := .ptr b v (p + off)) (by simp [execOp, hop, hx', fieldAt_ok hk]) ⟨h1, g, rfl, h2⟩ hK
theorem op_far (hR : Rel B nt w0 S0 s S L a w) (hd : ∀ k, o.dst = some k → k < nt) {x : Operand} {t k off n : Nat} (hop : o.op = .fieldAddr t x k) (hk : (flds t)[k]? = some (off, n)) {e p : Nat} (hx : V3 s.M L S s.N w (.row e p) (a.eval x)) (hv : p + off < esz e) (hK : K ⟨putA s.T o.dst (.row e (p + off)), s.M, s.N⟩) : o.wp Try.prog a w (Goal B nt w0 S0 K) Q := by
  obtain ⟨g, q, m, hx', h1, h2, h3, h4⟩ := hx
  refine pure_fin hR hd (v := .pointer (some ⟨g, q + off, none⟩)) (r := .row e (p + off)) (by simp [execOp, hop, hx', fieldAt_ok hk]) ⟨g, q + off, m, rfl, h1, h2, ?_, ?_⟩ hK
  · have hq := Nat.div_add_mod q (esz e)
    have hd2 : q / esz e < m := Nat.div_lt_of_lt_mul (by rw [Nat.mul_comm]; exact h3)
    have : (q / esz e + 1) * esz e ≤ m * esz e := Nat.mul_le_mul_right _ hd2
    rw [Nat.succ_mul, Nat.mul_comm] at this
    omega
  · rw [Nat.add_mod, h4, Nat.mod_eq_of_lt (show off < esz e by omega), Nat.mod_eq_of_lt hv]
theorem Addr_add (g o n : Nat) : (⟨g, o, none⟩ : Addr).add n = ⟨g, o + n, none⟩ := by
  unfold Addr.add
  split
  · subst_vars; rfl
  · rfl
theorem op_ia (hR : Rel B nt w0 S0 s S L a w) (hd : ∀ k, o.dst = some k → k < nt) {x i : Operand} {t e n : Nat} {k : Int} (hop : o.op = .indexAddr t x i) (ht : slel t = some e) (hx : V3 s.M L S s.N w (.sl e n) (a.eval x)) (hi : V3 s.M L S s.N w (.int k) (a.eval i)) (h0 : 0 ≤ k) (h1 : k < (n : Int)) (hK : K ⟨putA s.T o.dst (.row e 0), s.M, s.N⟩) : o.wp Try.prog a w (Goal B nt w0 S0 K) Q := by
  obtain ⟨A, c, hx', hn, hc, hz, hA⟩ := (show SV S s.N w (.sl e n) _ from hx)
  have hi' : a.eval i = .int .i64 k := hi
  rcases hA with ⟨rfl, rfl⟩ | ⟨g, q, m, rfl, g1, g2, g3⟩
  · omega
  · obtain ⟨inf, z, hinf, hsz, _⟩ := esz_info hz
    refine pure_fin hR hd (v := .pointer (some ⟨g, q * esz e + k.toNat * esz e, none⟩)) (r := .row e 0) ?_ ⟨g, q * esz e + k.toNat * esz e, m, rfl, g1, g2, ?_, ?_⟩ hK
    · simp [execOp, hop, hx', hi', Instr.indexAt, asIntOf, run_underlying (slel_ok ht).1, h0, h1, sizeOf, typeInfo, hinf, hsz, Addr_add]
    · rw [← Nat.add_mul]
      exact Nat.mul_lt_mul_of_pos_right (by omega) hz
    · rw [← Nat.add_mul]
      exact Nat.mul_mod_left _ _
theorem op_lenl (hR : Rel B nt w0 S0 s S L a w) (hd : ∀ k, o.dst = some k → k < nt) {x : Operand} {t : Nat} {c : Call} (hop : o.op = .call c) (hcc : c.callee = .builtin .len) (hca : c.args.toList = [x]) (hct : c.argTypes.toList = [t]) (ht : (slel t).isSome = true) {A : Option Addr} {n c' : Nat} (hx : V3 s.M L S s.N w (.lit (.slice A n c')) (a.eval x)) (hK : K ⟨putA s.T o.dst (.int (n : Int)), s.M, s.N⟩) : o.wp Try.prog a w (Goal B nt w0 S0 K) Q := by
  obtain rfl : c = { callee := .builtin .len, args := #[x], argTypes := #[t] } := by
    obtain ⟨c1, c2, c3⟩ := c
    simp only at hcc hca hct
    subst hcc
    have e1 : c2 = #[x] := by rw [← Array.toArray_toList (xs := c2), hca]
    have e2 : c3 = #[t] := by rw [← Array.toArray_toList (xs := c3), hct]
    rw [e1, e2]
  obtain ⟨hx', _⟩ := (show SV S s.N w (.lit (.slice A n c')) _ from hx)
  obtain ⟨e', he⟩ := Option.isSome_iff_exists.1 ht
  exact pure_fin hR hd (v := .int .i64 n) (r := .int n) (by simp [execOp, hop, hx', resolve, invoke, builtin, Builtin.len_, run_underlying (slel_ok he).1, goInt]) rfl hK
theorem op_fal (hR : Rel B nt w0 S0 s S L a w) (hd : ∀ k, o.dst = some k → k < nt) {x : Operand} {t k off n : Nat} (hop : o.op = .fieldAddr t x k) (hk : (flds t)[k]? = some (off, n)) {g p : Nat} (hx : V3 s.M L S s.N w (.lit (.pointer (some ⟨g, p, none⟩))) (a.eval x)) (hK : K ⟨putA s.T o.dst (.lit (.pointer (some ⟨g, p + off, none⟩))), s.M, s.N⟩) : o.wp Try.prog a w (Goal B nt w0 S0 K) Q := by
  obtain ⟨hx', _⟩ := (show SV S s.N w (.lit (.pointer (some ⟨g, p, none⟩))) _ from hx)
  exact pure_fin hR hd (v := .pointer (some ⟨g, p + off, none⟩)) (r := .lit (.pointer (some ⟨g, p + off, none⟩))) (by simp [execOp, hop, hx', fieldAt_ok hk]) ⟨rfl, .inr ⟨_, rfl⟩⟩ hK
theorem op_ial (hR : Rel B nt w0 S0 s S L a w) (hd : ∀ k, o.dst = some k → k < nt) {x i : Operand} {t e n c g p : Nat} {k : Int} (hop : o.op = .indexAddr t x i) (ht : slel t = some e) (hx : V3 s.M L S s.N w (.lit (.slice (some ⟨g, p, none⟩) n c)) (a.eval x)) (hi : V3 s.M L S s.N w (.int k) (a.eval i)) (h0 : 0 ≤ k) (h1 : k < (n : Int)) (hz : 0 < esz e) (hK : K ⟨putA s.T o.dst (.lit (.pointer (some ⟨g, p + k.toNat * esz e, none⟩))), s.M, s.N⟩) : o.wp Try.prog a w (Goal B nt w0 S0 K) Q := by
  obtain ⟨hx', _⟩ := (show SV S s.N w (.lit (.slice (some ⟨g, p, none⟩) n c)) _ from hx)
  have hi' : a.eval i = .int .i64 k := hi
  obtain ⟨inf, z, hinf, hsz, _⟩ := esz_info hz
  refine pure_fin hR hd (v := .pointer (some ⟨g, p + k.toNat * esz e, none⟩)) (r := .lit (.pointer (some ⟨g, p + k.toNat * esz e, none⟩))) ?_ ⟨rfl, .inr ⟨_, rfl⟩⟩ hK
  simp [execOp, hop, hx', hi', Instr.indexAt, asIntOf, run_underlying (slel_ok ht).1, h0, h1, sizeOf, typeInfo, hinf, hsz, Addr_add]
end
end Go.Proofs.Ytipfdcmjcelbiaa.Safe
end

section
/-! ## S5: The typed machine's steps that read and write memory: loads, stores, blocks that are made; no conditions. -/
set_option linter.unusedVariables false
set_option linter.unusedSimpArgs false
namespace Go.Proofs.Ytipfdcmjcelbiaa.Safe
open Go Go.RowKit

/-! ### lists of cells -/
theorem F2.of {α β : Type} {R : α → β → Prop} : ∀ {xs : List α} {ys : List β}, xs.length = ys.length → (∀ (i : Nat) (a : α) (b : β), xs[i]? = some a → ys[i]? = some b → R a b) → F2 R xs ys
  | [], [], _, _ => trivial
  | x :: xs, y :: ys, hl, h => ⟨h 0 x y rfl rfl, F2.of (by simpa using hl) (fun i a b ha hb => h (i + 1) a b (by simpa using ha) (by simpa using hb))⟩
  | [], _ :: _, hl, _ => by simp at hl
  | _ :: _, [], hl, _ => by simp at hl
theorem gen_of {S : Nat → Prop} {N : Nat} {w : World} : ∀ {ts : List CT} {vs : List Value}, F2 (CV S N w) ts vs → ∃ l, gen N ts l ∧ F2 (SV S N w) l vs
  | [], [], _ => ⟨[], rfl, trivial⟩
  | t :: ts, v :: vs, h => by
    obtain ⟨l, hl, hf⟩ := gen_of (ts := ts) (vs := vs) h.2
    have h1 := h.1
    cases t with
    | int => obtain ⟨x, rfl⟩ := h1; exact ⟨.int x :: l, ⟨x, l, rfl, hl⟩, rfl, hf⟩
    | bint => obtain ⟨x, hx, rfl⟩ := h1; exact ⟨.int x :: l, ⟨x, l, hx, rfl, hl⟩, rfl, hf⟩
    | pint => obtain ⟨x, hx, rfl⟩ := h1; exact ⟨.int x :: l, ⟨x, l, hx, rfl, hl⟩, rfl, hf⟩
    | byte => obtain ⟨x, rfl⟩ := h1; exact ⟨.byte x :: l, ⟨x, l, rfl, hl⟩, rfl, hf⟩
    | bool => obtain ⟨x, rfl⟩ := h1; exact ⟨.bool x :: l, ⟨x, l, rfl, hl⟩, rfl, hf⟩
    | str => obtain ⟨x, hx, rfl⟩ := h1; exact ⟨.str x.size :: l, ⟨_, l, hx, rfl, hl⟩, ⟨x, rfl, rfl⟩, hf⟩
    | sl e => obtain ⟨A, n, c, rfl, hs⟩ := h1; exact ⟨.sl e n :: l, ⟨n, l, hs.1, rfl, hl⟩, ⟨A, c, rfl, hs⟩, hf⟩
  | [], _ :: _, h => h.elim
  | _ :: _, [], h => h.elim
theorem cfm_of {S : Nat → Prop} {N : Nat} {w : World} : ∀ {ts : List CT} {l : List AV} {vs : List Value}, cfm ts l → F2 (SV S N w) l vs → F2 (CV S N w) ts vs
  | [], [], [], _, _ => trivial
  | .int :: ts, .int x :: l, v :: vs, h, hf => ⟨⟨x, hf.1⟩, cfm_of (ts := ts) h hf.2⟩
  | .bint :: ts, .int x :: l, v :: vs, h, hf => ⟨⟨x, h.1, hf.1⟩, cfm_of (ts := ts) h.2 hf.2⟩
  | .pint :: ts, .int x :: l, v :: vs, h, hf => ⟨⟨x, h.1, hf.1⟩, cfm_of (ts := ts) h.2 hf.2⟩
  | .byte :: ts, .byte x :: l, v :: vs, h, hf => ⟨⟨x, hf.1⟩, cfm_of (ts := ts) h hf.2⟩
  | .bool :: ts, .bool x :: l, v :: vs, h, hf => ⟨⟨x, hf.1⟩, cfm_of (ts := ts) h hf.2⟩
  | .str :: ts, .str x :: l, v :: vs, h, hf => ⟨let ⟨s, hs, hn⟩ := hf.1; ⟨s, by rw [hn]; exact h.1, hs⟩, cfm_of (ts := ts) h.2 hf.2⟩
  | .sl e :: ts, .sl e' n :: l, v :: vs, h, hf => ⟨by obtain ⟨rfl, _⟩ := h; obtain ⟨A, c, hv, hs⟩ := hf.1; exact ⟨A, n, c, hv, hs⟩, cfm_of (ts := ts) h.2 hf.2⟩
  | [], [], _ :: _, _, hf => hf.elim
  | [], _ :: _, _, h, _ => h.elim
  | .int :: _, _ :: _, [], _, hf => hf.elim
  | .bint :: _, _ :: _, [], _, hf => hf.elim
  | .pint :: _, _ :: _, [], _, hf => hf.elim
  | .byte :: _, _ :: _, [], _, hf => hf.elim
  | .bool :: _, _ :: _, [], _, hf => hf.elim
  | .str :: _, _ :: _, [], _, hf => hf.elim
  | .sl _ :: _, _ :: _, [], _, hf => hf.elim
theorem scls_one {S : Nat → Prop} {N : Nat} {w : World} : ∀ {l : List AV} {vs : List Value}, scls l = true → F2 (SV S N w) l vs → ∀ v ∈ vs, v.oneCell' = true
  | [], [], _, _ => by simp
  | x :: l, v :: vs, h, hf => by
    intro u hu
    rcases List.mem_cons.1 hu with rfl | hu
    · cases x with
      | int x => obtain rfl := (show _ = _ from hf.1); rfl
      | byte x => obtain rfl := (show _ = _ from hf.1); rfl
      | bool x => obtain rfl := (show _ = _ from hf.1); rfl
      | str n => obtain ⟨_, rfl, _⟩ := hf.1; rfl
      | sl e n => obtain ⟨_, _, rfl, _⟩ := hf.1; rfl
      | lit u => obtain ⟨rfl, ⟨_, _, _, rfl⟩ | ⟨_, rfl⟩⟩ := (show SV S N w (.lit u) _ from hf.1) <;> rfl
      | _ => cases h
    · refine scls_one (l := l) (vs := vs) ?_ hf.2 u hu
      cases x <;> first | exact h | cases h
  | [], _ :: _, _, hf => hf.elim
  | _ :: _, [], _, hf => hf.elim

/-! ### what a store leaves -/
/-- vs are written into block g from o on. -/
structure Wr (w : World) (g o : Nat) (vs : List Value) (w' : World) : Prop where
  blk : ∃ (cur cells : Array Value) (t : TypeId), w.heap[g]? = some (.cells cur t (0, 0)) ∧ o + vs.length ≤ cur.size ∧ w'.heap[g]? = some (.cells cells t (0, 0)) ∧ cells.toList = cur.toList.take o ++ vs ++ cur.toList.drop (o + vs.length)
  far : ∀ k, k ≠ g → w'.heap[k]? = w.heap[k]?
  size : w'.heap.size = w.heap.size
  os : w'.os = w.os
  tape : w'.tape = w.tape
  output : w'.output = w.output
theorem wr_setRow {w : World} {g o : Nat} {t : TypeId} {cur : Array Value} {vs : List Value} (hg : w.heap[g]? = some (.cells cur t (0, 0))) (hl : o + vs.length ≤ cur.size) : Wr w g o vs (w.setRow g (cur.toList.take o ++ vs ++ cur.toList.drop (o + vs.length)).toArray) :=
  ⟨⟨cur, _, t, hg, hl, setRow_heap w g cur _ t _ hg, rfl⟩, fun k hk => setRow_other w g k _ hk, setRow_size w g _, rfl, rfl, rfl⟩
theorem wr_setCells {g : Nat} {t : TypeId} : ∀ (vs : List Value) (o : Nat) (cur : Array Value) (w : World), w.heap[g]? = some (.cells cur t (0, 0)) → o + vs.length ≤ cur.size → Wr w g o vs (w.setCells g o vs)
  | [], o, cur, w, hg, hl => ⟨⟨cur, cur, t, hg, hl, hg, by simp⟩, fun _ _ => rfl, rfl, rfl, rfl, rfl⟩
  | v :: vs, o, cur, w, hg, hl => by
    have hlt : o < cur.size := by simp at hl; omega
    have h1 : (w.setCell ⟨g, o, none⟩ v).heap[g]? = some (.cells (cur.setIfInBounds o v) t (0, 0)) := by
      have hgl : g < w.heap.size := (Array.getElem?_eq_some_iff.1 hg).1
      have hge : w.heap[g] = .cells cur t (0, 0) := (Array.getElem?_eq_some_iff.1 hg).2
      simp [World.setCell, Array.getElem?_modify, hg]
    have ih := wr_setCells (g := g) (t := t) vs (o + 1) (cur.setIfInBounds o v) (w.setCell ⟨g, o, none⟩ v) h1 (by simp at hl ⊢; omega)
    obtain ⟨⟨cur', cells, t', e1, e2, e3, e4⟩, h2, h3, h4, h5, h6⟩ := ih
    rw [h1] at e1
    injection e1 with e1
    injection e1 with e1 e1t
    subst e1; subst e1t
    refine ⟨⟨cur, cells, t, hg, hl, e3, ?_⟩, fun k hk => (h2 k hk).trans ?_, h3.trans (by simp [World.setCell]), h4, h5, h6⟩
    · rw [e4]
      have e5 : (cur.setIfInBounds o v).toList = cur.toList.set o v := by simp
      have e6 : (cur.toList.set o v).take (o + 1) = cur.toList.take o ++ [v] := by
        have hlt' : o < cur.toList.length := by simpa using hlt
        rw [List.take_set, List.set_eq_take_append_cons_drop, if_pos (by simp; omega)]
        simp [List.take_take, List.drop_take]
      have e7 : (cur.toList.set o v).drop (o + 1 + vs.length) = cur.toList.drop (o + (v :: vs).length) := by
        rw [List.drop_set_of_lt (by omega)]
        congr 1
        simp; omega
      rw [e5, e6, e7]
      simp
    · simp [World.setCell, Array.getElem?_modify, Ne.symm hk]
theorem Wr.bk {w w' : World} {g o : Nat} {vs : List Value} (h : Wr w g o vs w') {k e m : Nat} (hb : Bk w k e m) : Bk w' k e m := by
  obtain ⟨c, hc, hm⟩ := hb
  by_cases hk : k = g
  · subst hk
    obtain ⟨cur, cells, t, e1, e2, e3, e4⟩ := h.blk
    rw [hc] at e1
    injection e1 with e1
    injection e1 with e1 e1t
    subst e1; subst e1t
    refine ⟨cells, e3, ?_⟩
    rw [← Array.length_toList, e4]
    simp
    omega
  · exact ⟨c, (h.far k hk).trans hc, hm⟩
theorem Wr.gro {w w' : World} {g o : Nat} {vs : List Value} (h : Wr w g o vs w') (S : Nat → Prop) (N : Nat) : Gro S N w S N w' := ⟨fun _ h => h, Nat.le_refl _, fun _ _ _ _ hb => h.bk hb⟩

section
variable {B : Base} {nt : Nat} {w0 : World} {S0 : Nat → Prop} {s : AS} {S : Nat → Prop} {L : Nat → Nat} {a : Act} {w : World} {o : Oper} {K : AS → Prop} {Q : Exit → Act → World → Prop}
/-- A store into a row: it stays a row. -/
theorem WT.wr {N : Nat} {w w' : World} {g p : Nat} {vs : List Value} (h : WT S N w B) (hw : Wr w g p vs w') {e m : Nat} (hg : Bk w g e m) (hz : 0 < esz e) (hS : S g)
    (hv : ∀ j v, vs[j]? = some v → ∃ t, (lay e)[(p + j) % esz e]? = some t ∧ CV S N w t v) : WT S N w' B := by
  have hG := hw.gro S N
  intro k hk
  refine ⟨(h k hk).1, ?_⟩
  by_cases hkg : k = g
  · subst hkg
    obtain ⟨cur, cells, t, e1, e2, e3, e4⟩ := hw.blk
    obtain ⟨c0, hc0, _⟩ := hg
    rw [e1] at hc0
    injection hc0 with hc0
    injection hc0 with hc1 hc2
    subst hc2
    rcases (h k hk).2 with ⟨e', cells', hc, hf1, ⟨q, hf2⟩, hf3⟩ | ⟨A, n, c, pp, hc, _⟩
    · rw [e1] at hc
      injection hc with hc
      injection hc with hc3 hc4
      subst hc4; subst hc3
      have hsz : cells.size = cur.size := by
        rw [← Array.length_toList, e4]
        simp
        omega
      refine .inl ⟨t, cells, e3, hf1, ⟨q, hsz.trans hf2⟩, fun i hi => ?_⟩
      obtain ⟨v, ty, h1, h2, h3⟩ := hf3 i (by omega)
      have hci : cells[i]? = (cur.toList.take p ++ vs ++ cur.toList.drop (p + vs.length))[i]? := by rw [← e4]; simp
      by_cases hlo : i < p
      · refine ⟨v, ty, ?_, h2, CV.gro hG h3⟩
        rw [hci, List.append_assoc, List.getElem?_append_left (by simp; omega), List.getElem?_take_of_lt hlo]
        simpa using h1
      · by_cases hhi : i < p + vs.length
        · obtain ⟨t2, ht2, hcv⟩ := hv (i - p) (vs[i - p]'(by omega)) (List.getElem?_eq_getElem (by omega))
          rw [show p + (i - p) = i by omega] at ht2
          refine ⟨vs[i - p]'(by omega), t2, ?_, ht2, CV.gro hG hcv⟩
          rw [hci, List.append_assoc, List.getElem?_append_right (by simp; omega), List.getElem?_append_left (by simp; omega)]
          rw [show i - (List.take p cur.toList).length = i - p by simp; omega]
          exact List.getElem?_eq_getElem (by omega)
        · refine ⟨v, ty, ?_, h2, CV.gro hG h3⟩
          rw [hci, List.getElem?_append_right (by simp; omega), List.getElem?_drop]
          rw [show p + vs.length + (i - (List.take p cur.toList ++ vs).length) = i by simp; omega]
          simpa using h1
    · rw [e1] at hc
      injection hc with hc
      injection hc with _ hc4
      subst hc4
      exact absurd hz (by decide)
  · rcases (h k hk).2 with ⟨e', cells', hc, hf⟩ | ⟨A, n, c, pp, hc, h1, h2, h4⟩
    · exact .inl ⟨e', cells', (hw.far k hkg).trans hc, hf.gro hG⟩
    · refine .inr ⟨A, n, c, pp, (hw.far k hkg).trans hc, h1, h2, h4.gro (Nat.le_of_eq hw.size.symm) (fun i hi _ => hw.far i (fun e => (h g hS).1 (e ▸ hi)))⟩
theorem Wr.out {w w' : World} {g p : Nat} {vs : List Value} (hw : Wr w g p vs w') (hS : S g) : Out S w S w' :=
  ⟨fun _ h => h, fun _ h => .inl h, Nat.le_of_eq hw.size.symm, fun k _ hn => hw.far k (fun e => hn (e ▸ hS)), fun _ _ _ _ hb => hw.bk hb, hw.os, hw.tape, hw.output⟩
/-- A store into a block of one's own. -/
theorem Rel.stl (hR : Rel B nt w0 S0 s S L a w) {b p : Nat} {l : List AV} {vs : List Value} {w' : World} (hne : (s.M b).2 ≠ []) (hw : Wr w (L b) p vs w') (hl : F2 (SV S s.N w) l vs) (hp : p + l.length ≤ (s.M b).2.length) :
    Rel B nt w0 S0 ⟨s.T, upd s.M b ((s.M b).1, (s.M b).2.take p ++ l ++ (s.M b).2.drop (p + l.length)), s.N⟩ S L a w' := by
  obtain ⟨hb1, hb2, cells0, t0, hb3, hb4⟩ := hR.loc b hne
  have hG := hw.gro S s.N
  have hnd : ¬ B.D (L b) := fun hd => by have := hd.1; have := hR.base.1.size; omega
  have hne' : (upd s.M b ((s.M b).1, (s.M b).2.take p ++ l ++ (s.M b).2.drop (p + l.length)) b).2 ≠ [] := by
    simp only [upd, if_true]
    intro e
    have e2 := congrArg List.length e
    rw [List.length_append, List.length_append, List.length_take, List.length_drop, List.length_nil] at e2
    have : 0 < (s.M b).2.length := List.length_pos_iff.2 hne
    omega
  have hM : ∀ k, (upd s.M b ((s.M b).1, (s.M b).2.take p ++ l ++ (s.M b).2.drop (p + l.length)) k).1 = (s.M k).1 := by
    intro k
    by_cases e : k = b
    · subst e; simp [upd]
    · simp [upd, e]
  have hN : ∀ k, (upd s.M b ((s.M b).1, (s.M b).2.take p ++ l ++ (s.M b).2.drop (p + l.length)) k).2 ≠ [] → (s.M k).2 ≠ [] := by
    intro k hk
    by_cases e : k = b
    · subst e; exact hne
    · simpa [upd, e] using hk
  exact {
    defers := hR.defers
    size := hR.size
    out := ⟨hR.out.s, fun k hk => hR.out.new k hk, by rw [hw.size]; exact hR.out.size, fun k hk hn => (hw.far k (fun e => by rw [e] at hk; omega)).trans (hR.out.keep k hk hn), fun k e m hk hb => hw.bk (hR.out.b k e m hk hb), hw.os.trans hR.out.os, hw.tape.trans hR.out.tape, hw.output.trans hR.out.output⟩
    wt := by
      intro k hk
      have hkb : k ≠ L b := fun e => hb2 (e ▸ hk)
      refine ⟨(hR.wt k hk).1, ?_⟩
      rcases (hR.wt k hk).2 with ⟨e', cells', hc, hf⟩ | ⟨A, n, c, pp, hc, h1, h2, h4⟩
      · exact .inl ⟨e', cells', (hw.far k hkb).trans hc, hf.gro hG⟩
      · exact .inr ⟨A, n, c, pp, (hw.far k hkb).trans hc, h1, h2, h4.gro (Nat.le_of_eq hw.size.symm) (fun i hi _ => hw.far i (fun e => hnd (e ▸ hi)))⟩
    tm := fun t => by
      have := V3.gro hG (hR.tm t)
      revert this
      cases s.T t <;> first | exact id | (intro h; obtain ⟨h1, g, h2, h3⟩ := h; exact ⟨by rw [hM]; exact h1, g, h2, fun e => h3 (by rw [hM] at e; exact e)⟩)
    loc := fun k hk => by
      have hk' := hN k hk
      by_cases e : k = b
      · subst e
        obtain ⟨cur, cells, t, x1, x2, x3, x4⟩ := hw.blk
        rw [hb3] at x1
        injection x1 with x1
        injection x1 with x1 x1t
        subst x1; subst x1t
        refine ⟨hb1, hb2, cells, t0, x3, ?_⟩
        simp only [upd, if_true]
        rw [x4]
        have hll := F2.length hl
        rw [← hll]
        exact F2.imp (fun _ _ => SV.gro hG) (F2.append (F2.append (F2.take p hb4) hl) (F2.drop _ hb4))
      · obtain ⟨k1, k2, cells, t, k3, k4⟩ := hR.loc k hk'
        have : L k ≠ L b := fun e2 => e (hR.inj k b hk' hne e2)
        refine ⟨k1, k2, cells, t, (hw.far _ this).trans k3, ?_⟩
        simp only [upd, if_neg e]
        exact F2.imp (fun _ _ => SV.gro hG) k4
    inj := fun k k' hk hk' e => hR.inj k k' (hN k hk) (hN k' hk') e
    big := hR.big
    base := hR.base }
end
end Go.Proofs.Ytipfdcmjcelbiaa.Safe
end

section
/-! ## S6: The typed machine's steps over memory, one by one: loads, stores, what is made, slices cut; no conditions. -/
set_option linter.unusedVariables false
set_option linter.unusedSimpArgs false
namespace Go.Proofs.Ytipfdcmjcelbiaa.Safe
open Go Go.RowKit

def mkV : Bool → List Value → Value
  | true, vs => .agg vs.toArray
  | false, v :: _ => v
  | false, [] => Go.undef
theorem cellAt {w : World} {g o : Nat} {cells : Array Value} {t : TypeId} (h : w.heap[g]? = some (.cells cells t (0, 0))) : w.cell? ⟨g, o, none⟩ = cells[o]? := by simp [World.cell?, h]
theorem run_loadVar {w : World} {t n : Nat} {ag : Bool} (ht : tsz t = some (n, ag)) {ad : Addr} {vs : List Value} (hl : vs.length = n) (hc : ∀ j v, vs[j]? = some v → w.cell? (ad.add j) = some v) : (loadVar t ad).run Try.prog w = .ok (mkV ag vs) w := by
  obtain ⟨⟨i, hi, hs⟩, hag, h1, h0⟩ := tsz_ok ht
  unfold loadVar
  cases ag with
  | false =>
    obtain rfl := h1 rfl
    match vs, hl with
    | [v], _ =>
      have := hc 0 v rfl
      rw [show ad.add 0 = ad by simp [Addr.add]] at this
      simp [hag, this, mkV]
  | true =>
    have e := run_loadCells_list (P := Try.prog) w ad vs hc
    simp only [Sem.run_bind, hag, Result.andThen_ok, if_true]
    simp [sizeOf, typeInfo, hi, hs, ← hl, e, mkV]
section
variable {B : Base} {nt : Nat} {w0 : World} {S0 : Nat → Prop} {s : AS} {S : Nat → Prop} {L : Nat → Nat} {a : Act} {w : World} {o : Oper} {K : AS → Prop} {Q : Exit → Act → World → Prop}
theorem mk_ok {N : Nat} {ag : Bool} {l : List AV} {vs : List Value} {M : Nat → Nat × List AV} (h : F2 (SV S N w) l vs) : V3 M L S N w (mk ag l) (mkV ag vs) := by
  cases ag with
  | true => exact ⟨vs, rfl, h⟩
  | false =>
    match l, vs, h with
    | [], [], _ => exact trivial
    | x :: l, v :: vs, h => exact V3_of_V2 (V2_of_V1 (V1_of_SV h.1))
theorem op_ldp (hR : Rel B nt w0 S0 s S L a w) (hd : ∀ k, o.dst = some k → k < nt) {x : Operand} {t n : Nat} {ag : Bool} (hop : o.op = .load t x) (ht : tsz t = some (n, ag)) {b v p : Nat} (hx : V3 s.M L S s.N w (.ptr b v p) (a.eval x)) (hv : v = (s.M b).1) (hl : p + n ≤ (s.M b).2.length) (hK : K ⟨putA s.T o.dst (mk ag (((s.M b).2.drop p).take n)), s.M, s.N⟩) : o.wp Try.prog a w (Goal B nt w0 S0 K) Q := by
  have hx' : a.eval x = .pointer (some ⟨L b, p, none⟩) := by
    obtain ⟨_, g, h2, h3⟩ := hx
    rw [h2, h3 hv]
  have h0 := (tsz_ok ht).2.2.2
  have hne : (s.M b).2 ≠ [] := by intro e; rw [e] at hl; simp at hl; omega
  obtain ⟨_, _, cells, ty, hc, hf⟩ := hR.loc b hne
  have hlen := F2.length hf
  have hf2 := F2.take n (F2.drop p hf)
  have hvl : ((cells.toList.drop p).take n).length = n := by simp at hlen ⊢; omega
  have e := run_loadVar (w := w) ht (ad := ⟨L b, p, none⟩) hvl (fun j u hj => by
    have hjn : j < n := by
      rcases Nat.lt_or_ge j n with h | h
      · exact h
      · rw [List.getElem?_eq_none (by omega)] at hj; cases hj
    rw [List.getElem?_take_of_lt hjn, List.getElem?_drop] at hj
    rw [Addr_add, cellAt hc]
    simpa using hj)
  exact pure_fin hR hd (by simp [execOp, hop, hx', Instr.loadAt, Instr.sureAddr, e]) (mk_ok hf2) hK
theorem lt_of_row {e m q n p : Nat} (h1 : q < m * e) (h2 : q % e = p) (h3 : p + n ≤ e) : q + n ≤ m * e := by
  have hq := Nat.div_add_mod q e
  have hd2 : q / e < m := Nat.div_lt_of_lt_mul (by rw [Nat.mul_comm]; exact h1)
  have : (q / e + 1) * e ≤ m * e := Nat.mul_le_mul_right _ hd2
  rw [Nat.succ_mul, Nat.mul_comm] at this
  omega
theorem mod_row {e q p j : Nat} (h2 : q % e = p) (h3 : p + j < e) : (q + j) % e = p + j := by
  rw [Nat.add_mod, h2, Nat.mod_eq_of_lt (show j < e by omega), Nat.mod_eq_of_lt h3]
theorem row_fit {N : Nat} (hW : WT S N w B) {g e m : Nat} (hS : S g) (hb : Bk w g e m) (hz : 0 < esz e) : ∃ cells, w.heap[g]? = some (.cells cells e (0, 0)) ∧ cells.size = m ∧ Fit S N w e cells := by
  obtain ⟨c0, h0, hm⟩ := hb
  rcases (hW g hS).2 with ⟨e', cells, hc, hf⟩ | ⟨A, n, c, pp, hc, _⟩
  · rw [h0] at hc
    injection hc with hc
    injection hc with h1 h2
    subst h1; subst h2
    exact ⟨c0, h0, hm, hf⟩
  · rw [h0] at hc
    injection hc with hc
    injection hc with h1 h2
    subst h2
    exact absurd hz (by decide)
theorem op_ldr (hR : Rel B nt w0 S0 s S L a w) (hd : ∀ k, o.dst = some k → k < nt) {x : Operand} {t n : Nat} {ag : Bool} (hop : o.op = .load t x) (ht : tsz t = some (n, ag)) {e p : Nat} (hx : V3 s.M L S s.N w (.row e p) (a.eval x)) (hl : p + n ≤ esz e) (hK : ∀ l, gen s.N (((lay e).drop p).take n) l → K ⟨putA s.T o.dst (mk ag l), s.M, s.N⟩) : o.wp Try.prog a w (Goal B nt w0 S0 K) Q := by
  obtain ⟨g, q, m, hx', h1, h2, h3, h4⟩ := hx
  have h0 := (tsz_ok ht).2.2.2
  obtain ⟨cells, hc, hm, hz, hmm, hf⟩ := row_fit hR.wt h1 h2 (by omega)
  have hq := lt_of_row h3 h4 hl
  have hvl : ((cells.toList.drop q).take n).length = n := by simp; omega
  have hF : F2 (CV S s.N w) (((lay e).drop p).take n) ((cells.toList.drop q).take n) := by
    refine F2.of (by rw [hvl]; unfold esz at hl; simp; omega) (fun j ty v ht hv => ?_)
    have hjn : j < n := by
      rcases Nat.lt_or_ge j n with h | h
      · exact h
      · rw [List.getElem?_eq_none (by omega)] at hv; cases hv
    rw [List.getElem?_take_of_lt hjn, List.getElem?_drop] at ht hv
    obtain ⟨v', ty', e1, e2, e3⟩ := hf (q + j) (by omega)
    rw [mod_row h4 (by omega), ht] at e2
    injection e2 with e2
    subst e2
    have : cells[q + j]? = some v := by simpa using hv
    rw [e1] at this
    injection this with this
    subst this
    exact e3
  obtain ⟨l, hg, hs⟩ := gen_of hF
  have e' := run_loadVar (w := w) ht (ad := ⟨g, q, none⟩) hvl (fun j u hj => by
    have hjn : j < n := by
      rcases Nat.lt_or_ge j n with h | h
      · exact h
      · rw [List.getElem?_eq_none (by omega)] at hj; cases hj
    rw [List.getElem?_take_of_lt hjn, List.getElem?_drop] at hj
    rw [Addr_add, cellAt hc]
    simpa using hj)
  exact pure_fin hR hd (by simp [execOp, hop, hx', Instr.loadAt, Instr.sureAddr, e']) (mk_ok hs) (hK l hg)
/-! ### stores -/
theorem run_storeAt {t n : Nat} {ag : Bool} (ht : tsz t = some (n, ag)) {g p ty : Nat} {cur : Array Value} {v : Value} (hn : v.cells.size = n) (hg : w.heap[g]? = some (.cells cur ty (0, 0))) (hl : p + n ≤ cur.size) (h1 : ∀ u ∈ v.cells.toList, u.oneCell' = true) :
    ∃ w', (Instr.storeAt t (.pointer (some ⟨g, p, none⟩)) v).run Try.prog w = .ok () w' ∧ Wr w g p v.cells.toList w' := by
  obtain ⟨⟨i, hi, hs⟩, _, _, _⟩ := tsz_ok ht
  have e := run_storeCells_at (P := Try.prog) g p ty v.cells.toList 0 cur w hg (by simp; omega) h1
  refine ⟨_, ?_, wr_setRow hg (by simp; omega)⟩
  simp only [Nat.add_zero] at e
  simp [Instr.storeAt, Instr.sureAddr, storeVar, sizeOf, typeInfo, hi, hs, hn, e]
theorem op_stp (hR : Rel B nt w0 S0 s S L a w) (hd : ∀ k, o.dst = some k → k < nt) {x y : Operand} {t n : Nat} {ag : Bool} (hop : o.op = .store t x y) (ht : tsz t = some (n, ag)) {b v p : Nat} (hx : V3 s.M L S s.N w (.ptr b v p) (a.eval x)) {u : AV} {l : List AV} (hy : V3 s.M L S s.N w u (a.eval y)) (hu : cellsA u = some l) (hv : v = (s.M b).1) (hn : l.length = n) (hl : p + n ≤ (s.M b).2.length) (h1 : scls l = true)
    (hK : K ⟨putA s.T o.dst .undef, upd s.M b ((s.M b).1, (s.M b).2.take p ++ l ++ (s.M b).2.drop (p + n)), s.N⟩) : o.wp Try.prog a w (Goal B nt w0 S0 K) Q := by
  have hx' : a.eval x = .pointer (some ⟨L b, p, none⟩) := by
    obtain ⟨_, g, h2, h3⟩ := hx
    rw [h2, h3 hv]
  have h0 := (tsz_ok ht).2.2.2
  have hne : (s.M b).2 ≠ [] := by intro e; rw [e] at hl; simp at hl; omega
  obtain ⟨_, _, cells, ty, hc, hf⟩ := hR.loc b hne
  have hlen := F2.length hf
  have hcs := cells_ok hy hu
  have hcl := F2.length hcs
  simp at hlen hcl
  obtain ⟨w', hrun, hw⟩ := run_storeAt (w := w) ht (g := L b) (p := p) (v := a.eval y) (by omega) hc (by omega) (scls_one h1 hcs)
  have hR' := hR.stl hne hw hcs (by omega)
  rw [hn] at hR'
  exact wp_skp (w' := w') (by simp [execOp, hop, hx', hrun]) ⟨_, S, L, hK, hR'.put hd (V3_of_V2 rfl)⟩
theorem op_str (hR : Rel B nt w0 S0 s S L a w) (hd : ∀ k, o.dst = some k → k < nt) {x y : Operand} {t n : Nat} {ag : Bool} (hop : o.op = .store t x y) (ht : tsz t = some (n, ag)) {e p : Nat} (hx : V3 s.M L S s.N w (.row e p) (a.eval x)) {u : AV} {l : List AV} (hy : V3 s.M L S s.N w u (a.eval y)) (hu : cellsA u = some l) (hn : l.length = n) (hl : p + n ≤ esz e) (hc : cfm (((lay e).drop p).take n) l) (h1 : scls l = true)
    (hK : K ⟨putA s.T o.dst .undef, s.M, s.N⟩) : o.wp Try.prog a w (Goal B nt w0 S0 K) Q := by
  obtain ⟨g, q, m, hx', g1, g2, g3, g4⟩ := hx
  have h0 := (tsz_ok ht).2.2.2
  obtain ⟨cells, hcc, hm, hz, hmm, hf⟩ := row_fit hR.wt g1 g2 (by omega)
  have hq := lt_of_row g3 g4 hl
  have hcs := cells_ok hy hu
  have hcl := F2.length hcs
  simp at hcl
  have hF := cfm_of hc hcs
  obtain ⟨w', hrun, hw⟩ := run_storeAt (w := w) ht (g := g) (p := q) (v := a.eval y) (by omega) hcc (by omega) (scls_one h1 hcs)
  have hW : WT S s.N w' B := hR.wt.wr hw g2 hz g1 (fun j v hj => by
    have hjn : j < n := by
      rcases Nat.lt_or_ge j n with h | h
      · exact h
      · rw [List.getElem?_eq_none (by simp; omega)] at hj; cases hj
    have hty : (((lay e).drop p).take n)[j]? = some ((lay e)[p + j]'(by unfold esz at hl; omega)) := by
      rw [List.getElem?_take_of_lt hjn, List.getElem?_drop, List.getElem?_eq_getElem (by unfold esz at hl; omega)]
    obtain ⟨v', hv', hcv⟩ := F2.get hF hty
    rw [hj] at hv'
    injection hv' with hv'
    subst hv'
    refine ⟨_, ?_, hcv⟩
    rw [mod_row g4 (by omega)]
    exact List.getElem?_eq_getElem _)
  have hR' := hR.to (hw.out g1) hW (Nat.le_refl _)
  exact wp_skp (w' := w') (by simp [execOp, hop, hx', hrun]) ⟨_, S, L, hK, hR'.put hd (V3_of_V2 rfl)⟩
/-! ### blocks of one's own -/
theorem alloc_old (o : Obj) {k : Nat} (h : k < w.heap.size) : (w.alloc o).heap[k]? = w.heap[k]? := by
  show (w.heap.push o)[k]? = _
  rw [Array.getElem?_push, if_neg (by omega)]
theorem alloc_new (o : Obj) : (w.alloc o).heap[w.heap.size]? = some o := by
  show (w.heap.push o)[w.heap.size]? = _
  simp
theorem alloc_size (o : Obj) : (w.alloc o).heap.size = w.heap.size + 1 := by
  show (w.heap.push o).size = _
  simp
theorem out_alloc {N : Nat} (hW : WT S N w B) (o : Obj) : Out S w S (w.alloc o) :=
  ⟨fun _ h => h, fun _ h => .inl h, by rw [alloc_size]; omega, fun k hk _ => alloc_old o hk, fun k e m hk hb => by
    obtain ⟨c, hc, hm⟩ := hb
    exact ⟨c, (alloc_old o (hW.lt hk)).trans hc, hm⟩, rfl, rfl, rfl⟩
theorem Rel.new (hR : Rel B nt w0 S0 s S L a w) (d t : Nat) {l : List AV} {cells : Array Value} (hf : F2 (SV S s.N w) l cells.toList) :
    Rel B nt w0 S0 ⟨s.T, upd s.M d ((s.M d).1 + 1, l), s.N⟩ S (upd L d w.heap.size) a (w.alloc (.cells cells t (0, 0))) := by
  have hO := out_alloc hR.wt (.cells cells t (0, 0))
  have hW : WT S s.N (w.alloc (.cells cells t (0, 0))) B := hR.wt.same (Nat.le_refl _) (by rw [alloc_size]; omega) (fun k hk => alloc_old _ hk)
  have hG : Gro S s.N w S s.N (w.alloc (.cells cells t (0, 0))) := hO.gro (Nat.le_refl _)
  have h1 := hR.to hO hW (Nat.le_refl _)
  have ltb : ∀ b, (s.M b).2 ≠ [] → L b < w.heap.size := fun b hb => by
    obtain ⟨_, _, c, ty, hc, _⟩ := hR.loc b hb
    rcases Nat.lt_or_ge (L b) w.heap.size with hl | hl
    · exact hl
    · rw [Array.getElem?_eq_none hl] at hc; cases hc
  exact {
    defers := h1.defers
    size := h1.size
    out := h1.out
    wt := hW
    tm := fun k => by
      have := h1.tm k
      revert this
      cases s.T k <;> first
        | exact id
        | (rename_i b v p
           intro h
           obtain ⟨h1, g, h2, h3⟩ := h
           by_cases e : b = d
           · subst e
             exact ⟨by simp only [upd, if_true]; exact Nat.le_succ_of_le h1, g, h2, fun e2 => by simp only [upd, if_true] at e2; simp only at h1; omega⟩
           · exact ⟨by simp only [upd, if_neg e]; exact h1, g, h2, fun e2 => by simp only [upd, if_neg e] at e2 ⊢; exact h3 e2⟩)
    loc := fun b hb => by
      by_cases e : b = d
      · subst e
        simp only [upd, if_true]
        exact ⟨hR.out.size, fun hs => Nat.lt_irrefl _ (hR.wt.lt hs), cells, t, alloc_new _, F2.imp (fun _ _ => SV.gro hG) hf⟩
      · simp only [upd, if_neg e] at hb ⊢
        exact h1.loc b hb
    inj := fun b b' hb hb' e => by
      by_cases e1 : b = d <;> by_cases e2 : b' = d
      · rw [e1, e2]
      · subst e1
        simp only [upd, if_true, if_neg e2] at e hb'
        have := ltb b' hb'
        omega
      · subst e2
        simp only [upd, if_true, if_neg e1] at e hb
        have := ltb b hb
        omega
      · simp only [upd, if_neg e1, if_neg e2] at e hb hb'
        exact hR.inj b b' hb hb' e
    big := hR.big
    base := hR.base }
theorem op_new (hR : Rel B nt w0 S0 s S L a w) (hd : ∀ k, o.dst = some k → k < nt) {e d : Nat} (hop : o.op = .alloc e) {z : List AV} (hz : zeroA e = some z) (hK : K ⟨putA s.T o.dst (.ptr d ((s.M d).1 + 1) 0), upd s.M d ((s.M d).1 + 1, z), s.N⟩) : o.wp Try.prog a w (Goal B nt w0 S0 K) Q := by
  obtain ⟨_, i, zv, hi, hzv, _, hf⟩ := zero_ok hz
  have hR' := hR.new d e (hf S s.N w)
  refine wp_val (v := .pointer (some ⟨w.heap.size, 0, none⟩)) (w' := w.alloc (.cells zv.cells e (0, 0))) ?_ ⟨_, S, _, hK, hR'.put hd ⟨by simp [upd], _, rfl, fun _ => by simp [upd]⟩⟩
  simp [execOp, hop, Instr.alloc, zeroValue, typeInfo, hi, hzv, newVar, newRow]
theorem op_box (hR : Rel B nt w0 S0 s S L a w) (hd : ∀ k, o.dst = some k → k < nt) {e d : Nat} {x : Operand} (hop : o.op = .box e x) {u : AV} {l : List AV} (hx : V3 s.M L S s.N w u (a.eval x)) (hu : cellsA u = some l) (hK : K ⟨putA s.T o.dst (.ptr d ((s.M d).1 + 1) 0), upd s.M d ((s.M d).1 + 1, l), s.N⟩) : o.wp Try.prog a w (Goal B nt w0 S0 K) Q := by
  have hR' := hR.new d e (cells_ok hx hu)
  refine wp_val (v := .pointer (some ⟨w.heap.size, 0, none⟩)) (w' := w.alloc (.cells (a.eval x).cells e (0, 0))) ?_ ⟨_, S, _, hK, hR'.put hd ⟨by simp [upd], _, rfl, fun _ => by simp [upd]⟩⟩
  simp [execOp, hop, Instr.box, newVar, newRow]
end
end Go.Proofs.Ytipfdcmjcelbiaa.Safe
end

section
/-! ## S7: The typed machine's steps that make structs and rows, cut slices and append; no conditions. -/
set_option linter.unusedVariables false
set_option linter.unusedSimpArgs false
namespace Go.Proofs.Ytipfdcmjcelbiaa.Safe
open Go Go.RowKit

theorem splice (off : Nat) : ∀ (vs : List Value) (k : Nat) (cs : Array Value), off + k + vs.length ≤ cs.size → ((vs.zipIdx k).foldl (fun (c : Array Value) (x : Value × Nat) => c.setIfInBounds (off + x.2) x.1) cs).toList = cs.toList.take (off + k) ++ vs ++ cs.toList.drop (off + k + vs.length)
  | [], k, cs, _ => by simp
  | v :: vs, k, cs, h => by
    simp only [List.zipIdx_cons, List.foldl_cons]
    have hlt : off + k < cs.toList.length := by simp at h ⊢; omega
    rw [splice off vs (k + 1) (cs.setIfInBounds (off + k) v) (by simp at h ⊢; omega)]
    have e5 : (cs.setIfInBounds (off + k) v).toList = cs.toList.set (off + k) v := by simp
    have e6 : (cs.toList.set (off + k) v).take (off + (k + 1)) = cs.toList.take (off + k) ++ [v] := by
      rw [List.take_set, List.set_eq_take_append_cons_drop, if_pos (by simp at hlt ⊢; omega)]
      rw [show off + (k + 1) = off + k + 1 by omega]
      simp [List.take_take, List.drop_take]
    have e7 : (cs.toList.set (off + k) v).drop (off + (k + 1) + vs.length) = cs.toList.drop (off + k + (v :: vs).length) := by
      rw [List.drop_set_of_lt (by omega)]
      congr 1
      simp; omega
    rw [e5, e6, e7]
    simp
theorem fill_one (place : Nat → Option (Nat × Nat)) {i off n : Nat} (hp : place i = some (off, n)) {v : Value} {cs : Array Value} (hn : v.cells.size = n) (hl : off + n ≤ cs.size) (rest : List (Nat × Value)) :
    ∃ cs' : Array Value, cs'.toList = cs.toList.take off ++ v.cells.toList ++ cs.toList.drop (off + n) ∧ Instr.fill place cs ((i, v) :: rest) = Instr.fill place cs' rest := by
  refine ⟨v.cells.zipIdx.foldl (fun cs (c, j) => cs.setIfInBounds (off + j) c) cs, ?_, ?_⟩
  · have := splice off v.cells.toList 0 cs (by simp; omega)
    rw [← Array.foldl_toList, Array.toList_zipIdx]
    simp only [Nat.add_zero, Array.length_toList, hn] at this
    exact this
  · simp only [Instr.fill, hp]
    rw [if_neg (by simp; omega)]
section
variable {B : Base} {nt : Nat} {w0 : World} {S0 : Nat → Prop} {s : AS} {S : Nat → Prop} {L : Nat → Nat} {a : Act} {w : World} {o : Oper} {K : AS → Prop} {Q : Exit → Act → World → Prop}
theorem fill_ok (hR : Rel B nt w0 S0 s S L a w) (fs : List (Nat × Nat)) : ∀ (ps : List (Nat × Operand)) {l : List (Nat × Nat × X)} {z z' : List AV} {cs : Array Value}, annParts fs ps = some l → fillA s.T z l = some z' → F2 (SV S s.N w) z cs.toList →
    ∃ cs' : Array Value, Instr.fill (fs[·]?) cs (ps.map fun (i, x) => (i, a.eval x)) = some cs' ∧ F2 (SV S s.N w) z' cs'.toList
  | [], l, z, z', cs, hp, hz, hf => by
    simp only [annParts, Option.some.injEq] at hp
    subst hp
    simp only [fillA, Option.some.injEq] at hz
    subst hz
    exact ⟨cs, rfl, hf⟩
  | (i, x) :: ps, l, z, z', cs, hp, hz, hf => by
    simp only [annParts] at hp
    split at hp
    · rename_i off n y l' h1 h2 h3
      injection hp with hp
      subst hp
      simp only [fillA] at hz
      split at hz
      · rename_i c hc
        split at hz
        · rename_i hcond
          obtain ⟨hcn, hcl⟩ := hcond
          have hv := annX_ok h2 hR
          have hcs := cells_ok hv hc
          have hlen := F2.length hcs
          have hzl := F2.length hf
          simp at hlen hzl
          obtain ⟨cs1, e1, e2⟩ := fill_one (fs[·]?) h1 (v := a.eval x) (cs := cs) (by omega) (by omega) (ps.map fun (i, x) => (i, a.eval x))
          have hf1 : F2 (SV S s.N w) (z.take off ++ c ++ z.drop (off + n)) cs1.toList := by
            rw [e1]
            exact F2.append (F2.append (F2.take _ hf) hcs) (F2.drop _ hf)
          obtain ⟨cs', e3, e4⟩ := fill_ok hR fs ps h3 hz hf1
          exact ⟨cs', by rw [List.map_cons, e2]; exact e3, e4⟩
        · cases hz
      · cases hz
    · cases hp
theorem op_build (hR : Rel B nt w0 S0 s S L a w) (hd : ∀ k, o.dst = some k → k < nt) {t : Nat} {ps : Array (Nat × Operand)} (hop : o.op = .build t ps) {z z' : List AV} (hz : zeroA t = some z) {l : List (Nat × Nat × X)} (hl : annParts (flds t) ps.toList = some l) (hne : (flds t).isEmpty = false) (hf : fillA s.T z l = some z') (hK : K ⟨putA s.T o.dst (.agg z'), s.M, s.N⟩) : o.wp Try.prog a w (Goal B nt w0 S0 K) Q := by
  obtain ⟨_, i, zv, hi, hzv, _, hzf⟩ := zero_ok hz
  obtain ⟨fields, hu, hm⟩ := flds_ok hne
  obtain ⟨cs', e1, e2⟩ := fill_ok hR (flds t) ps.toList hl hf (hzf S s.N w)
  refine pure_fin hR hd (v := .agg cs') (r := .agg z') ?_ ⟨cs'.toList, by simp, e2⟩ hK
  have e3 : (ps.map fun (i, x) => (i, a.eval x)).toList = ps.toList.map fun (i, x) => (i, a.eval x) := by simp
  simp only [execOp, hop, Instr.build, Sem.run_bind, zeroValue, typeInfo, run_program, Result.andThen_ok, hi, hzv, Sem.run_pure, run_underlying hu, hm, e3]
  have e4 : Instr.fill (fun x => (flds t).toArray[x]?) zv.cells (ps.toList.map fun (i, x) => (i, a.eval x)) = some cs' := by simpa using e1
  rw [e4]
  rfl
/-! ### rows that are made -/
/-- Cells typed as a row's are. -/
def Ty (S : Nat → Prop) (N : Nat) (w : World) (e : Nat) (cells : Array Value) : Prop := ∀ i, i < cells.size → ∃ v t, cells[i]? = some v ∧ (lay e)[i % esz e]? = some t ∧ CV S N w t v
theorem Ty.splice {S : Nat → Prop} {N : Nat} {w : World} {e k : Nat} {cs cs1 : Array Value} (h : Ty S N w e cs) {vs : List Value} (hz : 0 < esz e) (hv : F2 (CV S N w) (lay e) vs) (hk : k * esz e + esz e ≤ cs.size) (e1 : cs1.toList = cs.toList.take (k * esz e) ++ vs ++ cs.toList.drop (k * esz e + esz e)) : Ty S N w e cs1 ∧ cs1.size = cs.size := by
  have hvl : vs.length = esz e := (F2.length hv).symm
  have hsz : cs1.size = cs.size := by
    rw [← Array.length_toList, e1]
    simp
    omega
  refine ⟨fun i hi => ?_, hsz⟩
  have hci : cs1[i]? = (cs.toList.take (k * esz e) ++ vs ++ cs.toList.drop (k * esz e + esz e))[i]? := by rw [← e1]; simp
  obtain ⟨v, ty, h1, h2, h3⟩ := h i (by omega)
  by_cases hlo : i < k * esz e
  · refine ⟨v, ty, ?_, h2, h3⟩
    rw [hci, List.append_assoc, List.getElem?_append_left (by simp; omega), List.getElem?_take_of_lt hlo]
    simpa using h1
  · by_cases hhi : i < k * esz e + esz e
    · have hj : i - k * esz e < esz e := by omega
      have hm : i % esz e = i - k * esz e := by
        have : i = (i - k * esz e) + k * esz e := by omega
        rw [this, Nat.add_mul_mod_self_right, Nat.mod_eq_of_lt hj]
        omega
      have hty : (lay e)[i - k * esz e]? = some ((lay e)[i - k * esz e]'hj) := List.getElem?_eq_getElem _
      obtain ⟨v', hv', hcv⟩ := F2.get hv hty
      refine ⟨v', _, ?_, by rw [hm]; exact hty, hcv⟩
      rw [hci, List.append_assoc, List.getElem?_append_right (by simp; omega), List.getElem?_append_left (by simp; omega)]
      rw [show i - (List.take (k * esz e) cs.toList).length = i - k * esz e by simp; omega]
      exact hv'
    · refine ⟨v, ty, ?_, h2, h3⟩
      rw [hci, List.getElem?_append_right (by simp; omega), List.getElem?_drop]
      rw [show k * esz e + esz e + (i - (List.take (k * esz e) cs.toList ++ vs).length) = i by simp; omega]
      simpa using h1
theorem fill_rows (hR : Rel B nt w0 S0 s S L a w) {e : Nat} (hz : 0 < esz e) : ∀ (ps : List (Nat × Operand)) (k n : Nat) {l : List X} {cs : Array Value}, annElems k ps = some l → allC s.T e l → k + l.length ≤ n → cs.size = n * esz e → Ty S s.N w e cs →
    ∃ cs' : Array Value, Instr.fill (fun i => some (i * esz e, esz e)) cs (ps.map fun (i, x) => (i, a.eval x)) = some cs' ∧ Ty S s.N w e cs' ∧ cs'.size = n * esz e
  | [], k, n, l, cs, hp, hc, hk, hs, ht => ⟨cs, rfl, ht, hs⟩
  | (i, x) :: ps, k, n, l, cs, hp, hc, hk, hs, ht => by
    simp only [annElems] at hp
    split at hp
    · rename_i hik
      subst hik
      split at hp
      · rename_i y l' h2 h3
        injection hp with hp
        subst hp
        simp only [allC] at hc
        obtain ⟨hc1, hc2⟩ := hc
        split at hc1
        · rename_i c hcc
          have hcs := cells_ok (annX_ok h2 hR) hcc
          have hF := cfm_of hc1 hcs
          have hvl := F2.length hF
          simp at hvl hk
          have hb : (i + 1) * esz e ≤ n * esz e := Nat.mul_le_mul_right _ (by omega)
          rw [Nat.succ_mul] at hb
          obtain ⟨cs1, e1, e2⟩ := fill_one (fun i => some (i * esz e, esz e)) rfl (i := i) (v := a.eval x) (cs := cs) (by unfold esz; omega) (by omega) (ps.map fun (i, x) => (i, a.eval x))
          obtain ⟨t1, s1⟩ := Ty.splice ht hz hF (by omega) e1
          obtain ⟨cs', e3, e4, e5⟩ := fill_rows hR hz ps (i + 1) n h3 hc2 (by omega) (s1.trans hs) t1
          exact ⟨cs', by rw [List.map_cons, e2]; exact e3, e4, e5⟩
        · exact hc1.elim
      · cases hp
    · cases hp
theorem bk_new {cells : Array Value} {e : Nat} : Bk (w.alloc (.cells cells e (0, 0))) w.heap.size e cells.size := ⟨cells, alloc_new _, rfl⟩
/-- A new row. -/
theorem Rel.row (hR : Rel B nt w0 S0 s S L a w) {e : Nat} {cells : Array Value} (hf : Fit S s.N w e cells) {N' : Nat} (hN : s.N ≤ N') :
    Rel B nt w0 S0 ⟨s.T, s.M, N'⟩ (fun k => S k ∨ k = w.heap.size) L a (w.alloc (.cells cells e (0, 0))) := by
  have hO1 := out_alloc hR.wt (.cells cells e (0, 0))
  have hO : Out S w (fun k => S k ∨ k = w.heap.size) (w.alloc (.cells cells e (0, 0))) :=
    ⟨fun _ h => .inl h, fun k h => h.imp id (fun e => Nat.le_of_eq e.symm), hO1.size, fun k hk hn => alloc_old _ hk, hO1.b, rfl, rfl, rfl⟩
  have hG : Gro S s.N w (fun k => S k ∨ k = w.heap.size) N' (w.alloc (.cells cells e (0, 0))) := hO.gro hN
  refine hR.to hO (fun k hk => ?_) hN
  rcases hk with hk | rfl
  · refine ⟨(hR.wt k hk).1, ?_⟩
    rcases (hR.wt k hk).2 with ⟨e', cells', hc, hf'⟩ | ⟨A, n, c, pp, hc, h1, h2, h4⟩
    · exact .inl ⟨e', cells', (alloc_old _ (hR.wt.lt hk)).trans hc, hf'.gro hG⟩
    · exact .inr ⟨A, n, c, pp, (alloc_old _ (hR.wt.lt hk)).trans hc, h1, by omega, h4.gro hO.size (fun i _ hi => alloc_old _ hi)⟩
  · exact ⟨hR.P.new (Nat.le_refl _), .inl ⟨e, cells, alloc_new _, hf.gro hG⟩⟩
theorem op_bsl (hR : Rel B nt w0 S0 s S L a w) (hd : ∀ k, o.dst = some k → k < nt) {t e n : Nat} {ps : Array (Nat × Operand)} (hop : o.op = .buildSlice t n ps) (ht : slel t = some e) {l : List X} (hl : annElems 0 ps.toList = some l) (hn : n = l.length) (h16 : n ≤ 16) (hc : allC s.T e l) (hK : K ⟨putA s.T o.dst (.sl e l.length), s.M, s.N⟩) : o.wp Try.prog a w (Goal B nt w0 S0 K) Q := by
  obtain ⟨hu, hz⟩ := slel_ok ht
  obtain ⟨i, z, hi, hs, hzz, hzs, _, _, hzt⟩ := esz_info hz
  have hes : esz e ≤ 16 := by
    unfold esz lay
    split <;> decide
  have hb24 : ¬ (n * esz e > 2 ^ 24) := by
    have : n * esz e ≤ 16 * 16 := Nat.mul_le_mul h16 hes
    omega
  have cs0 : ∃ c0 : Array Value, c0.size = n * esz e ∧ Ty S s.N w e c0 ∧ (n * esz e = 0 → c0 = #[]) ∧ (n * esz e ≠ 0 → (Array.range (n * esz e)).map (fun x => z.cells[x % z.cells.size]!) = c0) := by
    by_cases h0 : n * esz e = 0
    · exact ⟨#[], by simp [h0], fun i hi => by simp at hi, fun _ => rfl, fun h => absurd h0 h⟩
    · refine ⟨_, by simp, fun j hj => ?_, fun h => absurd h h0, fun _ => rfl⟩
      simp at hj
      have hm : j % esz e < esz e := Nat.mod_lt _ hz
      obtain ⟨v, ty, g1, g2, g3⟩ := hzt S s.N w _ hm
      refine ⟨v, ty, ?_, g2, g3⟩
      have : z.cells[j % z.cells.size]! = v := by
        rw [hzs]
        rw [getElem!_def, g1]
      rw [Array.getElem?_map, Array.getElem?_range, if_pos (by simpa using hj)]
      simp [this]
  obtain ⟨c0, hz3, hz4, hq0, hq1⟩ := cs0
  obtain ⟨cs', e1, e2, e3⟩ := fill_rows hR hz ps.toList 0 n hl hc (by omega) hz3 hz4
  have hfit : Fit S s.N w e cs' := ⟨hz, ⟨n, e3⟩, e2⟩
  have hR' := hR.row hfit (Nat.le_refl _)
  refine wp_val (v := .slice (some ⟨w.heap.size, 0, none⟩) n n) (w' := w.alloc (.cells cs' e (0, 0))) ?_ ⟨_, _, L, hK, hR'.put hd (V3_of_V2 (V2_of_V1 (V1_of_SV ⟨some ⟨w.heap.size, 0, none⟩, n, by rw [hn], by have := hR.big; show l.length ≤ s.N; omega, by rw [hn]; exact Nat.le_refl _, hz, .inr ⟨w.heap.size, 0, n, by simp, .inr rfl, by rw [← e3]; exact bk_new, by omega⟩⟩)))⟩
  have e4 : (ps.map fun (i, x) => (i, a.eval x)).toList = ps.toList.map fun (i, x) => (i, a.eval x) := by simp
  have hsz : ∀ w, (sizeOf e).run Try.prog w = .ok (esz e) w := fun w => by simp [sizeOf, typeInfo, hi, hs]
  by_cases h0 : n * esz e = 0
  · have e5 : Instr.fill (fun i => some (i * esz e, esz e)) ((Array.range (n * esz e)).map (fun x => (#[] : Array Value)[x % (#[] : Array Value).size]!)) (ps.toList.map fun (i, x) => (i, a.eval x)) = some cs' := by
      have e6 : ∀ f : Nat → Value, (Array.range 0).map f = #[] := fun f => by simp
      rw [hq0 h0] at e1
      rw [h0, e6]
      exact e1
    simp only [execOp, hop, Instr.buildSlice, Sem.run_bind, run_underlying hu, Result.andThen_ok, hsz, if_neg hb24, Sem.run_pure, e4, if_pos h0, e5]
    simp [newRow]
  · have e5 : Instr.fill (fun i => some (i * esz e, esz e)) ((Array.range (n * esz e)).map (fun x => z.cells[x % z.cells.size]!)) (ps.toList.map fun (i, x) => (i, a.eval x)) = some cs' := by
      rw [hq1 h0]
      exact e1
    simp only [execOp, hop, Instr.buildSlice, Sem.run_bind, run_underlying hu, Result.andThen_ok, hsz, if_neg hb24, Sem.run_pure, e4, if_neg h0, zeroValue, typeInfo, run_program, hi, hzz, e5]
    simp [newRow]
/-! ### slices cut, and appended to -/
theorem op_slc (hR : Rel B nt w0 S0 s S L a w) (hd : ∀ k, o.dst = some k → k < nt) {t e n : Nat} {x : Operand} {lo hi : Option Operand} (hop : o.op = .slice t x lo hi none) (ht : slel t = some e) (hx : V3 s.M L S s.N w (.sl e n) (a.eval x)) {l h : Int} (hl : (lo = none ∧ l = 0) ∨ ∃ y, lo = some y ∧ a.eval y = .int .i64 l) (hh : (hi = none ∧ h = n) ∨ ∃ y, hi = some y ∧ a.eval y = .int .i64 h) (h0 : 0 ≤ l) (h1 : l ≤ h) (h2 : h ≤ (n : Int)) (hK : K ⟨putA s.T o.dst (.sl e (h - l).toNat), s.M, s.N⟩) : o.wp Try.prog a w (Goal B nt w0 S0 K) Q := by
  obtain ⟨A, c, hx', hn, hc, hz, hA⟩ := (show SV S s.N w (.sl e n) _ from hx)
  obtain ⟨hu, _⟩ := slel_ok ht
  obtain ⟨i, z, hi', hs, _⟩ := esz_info hz
  have hsz : ∀ w, (sizeOf e).run Try.prog w = .ok (esz e) w := fun w => by simp [sizeOf, typeInfo, hi', hs]
  have hb : ∀ w, (Instr.sliceBounds true n c (lo.map a.eval) (hi.map a.eval) none).run Try.prog w = .ok (l.toNat, h.toNat, c) w := by
    intro w
    have hhc : h ≤ (c : Int) := by omega
    have h0h : 0 ≤ h := by omega
    have hlh : l ≤ (h.toNat : Int) := by omega
    rcases hl with ⟨rfl, rfl⟩ | ⟨y, rfl, hy⟩ <;> rcases hh with ⟨rfl, rfl⟩ | ⟨y', rfl, hy'⟩ <;> simp_all [Instr.sliceBounds, Instr.sliceBound, asIntOf]
  have hrun : (execOp a.eval o).run Try.prog w = .ok (.value (.slice (if c = l.toNat then A else A.map (·.add (l.toNat * esz e))) (h.toNat - l.toNat) (c - l.toNat))) w := by
    simp [execOp, hop, hx', Instr.sliceAt, Instr.slice, run_underlying hu, hb, hsz]
  refine pure_fin hR hd hrun (r := .sl e (h - l).toNat) ?_ hK
  have en : (h - l).toNat = h.toNat - l.toNat := by omega
  refine V3_of_V2 (V2_of_V1 (V1_of_SV ⟨_, _, by rw [en], by omega, by omega, hz, ?_⟩))
  rcases hA with ⟨rfl, rfl⟩ | ⟨g, q, m, rfl, g1, g2, g3⟩
  · exact .inl ⟨by split <;> rfl, by omega⟩
  · by_cases e1 : c = l.toNat
    · rw [if_pos e1]
      exact .inr ⟨g, q, m, rfl, g1, g2, by omega⟩
    · rw [if_neg e1]
      exact .inr ⟨g, q + l.toNat, m, by simp [Addr_add, Nat.add_mul], g1, g2, by omega⟩
/-- The cells of a slice. -/
theorem slice_cells {N : Nat} (hW : WT S N w B) {e n c : Nat} {A : Option Addr} (h : SLT S N w e n A c) : (A = none ∧ n = 0 ∧ c = 0) ∨ ∃ (g q : Nat) (vs : List Value), A = some ⟨g, q * esz e, none⟩ ∧ S g ∧ vs.length = n * esz e ∧ (∀ (j : Nat) (v : Value), vs[j]? = some v → w.cell? ⟨g, q * esz e + j, none⟩ = some v) ∧ (∀ (j : Nat) (v : Value), vs[j]? = some v → ∃ t, (lay e)[j % esz e]? = some t ∧ CV S N w t v) ∧ (∃ (cells : Array Value) (m : Nat), w.heap[g]? = some (.cells cells e (0, 0)) ∧ cells.size = m * esz e ∧ q + c ≤ m) := by
  obtain ⟨h1, h2, hz, h3⟩ := h
  rcases h3 with ⟨rfl, rfl⟩ | ⟨g, q, m, rfl, g1, g2, g3⟩
  · exact .inl ⟨rfl, by omega, rfl⟩
  · obtain ⟨cells, hc, hm, _, _, hf⟩ := row_fit hW g1 g2 hz
    have hb : (q + n) * esz e ≤ m * esz e := Nat.mul_le_mul_right _ (by omega)
    rw [Nat.add_mul] at hb
    have hlen : ((cells.toList.drop (q * esz e)).take (n * esz e)).length = n * esz e := by simp; omega
    have hget : ∀ j v, ((cells.toList.drop (q * esz e)).take (n * esz e))[j]? = some v → j < n * esz e ∧ cells[q * esz e + j]? = some v := by
      intro j v hj
      have hjn : j < n * esz e := by
        rcases Nat.lt_or_ge j (n * esz e) with h | h
        · exact h
        · rw [List.getElem?_eq_none (by omega)] at hj; cases hj
      rw [List.getElem?_take_of_lt hjn, List.getElem?_drop] at hj
      exact ⟨hjn, by simpa using hj⟩
    refine .inr ⟨g, q, _, rfl, g1, hlen, fun j v hj => by rw [cellAt hc]; exact (hget j v hj).2, fun j v hj => ?_, cells, m, hc, hm, g3⟩
    obtain ⟨hjn, hv⟩ := hget j v hj
    obtain ⟨v', t, e1, e2, e3⟩ := hf (q * esz e + j) (by omega)
    rw [hv] at e1
    injection e1 with e1
    subst e1
    refine ⟨t, ?_, e3⟩
    rw [Nat.add_comm, Nat.add_mul_mod_self_right] at e2
    exact e2
theorem CV_one {S : Nat → Prop} {N : Nat} {w : World} {t : CT} {v : Value} (h : CV S N w t v) : v.oneCell' = true := by
  cases t with
  | int => obtain ⟨_, rfl⟩ := h; rfl
  | bint => obtain ⟨_, _, rfl⟩ := h; rfl
  | pint => obtain ⟨_, _, rfl⟩ := h; rfl
  | byte => obtain ⟨_, rfl⟩ := h; rfl
  | bool => obtain ⟨_, rfl⟩ := h; rfl
  | str => obtain ⟨_, _, rfl⟩ := h; rfl
  | sl e => obtain ⟨_, _, _, rfl, _⟩ := h; rfl
theorem op_app (hR : Rel B nt w0 S0 s S L a w) (hd : ∀ k, o.dst = some k → k < nt) {t e n m : Nat} {x y : Operand} (hop : o.op = .call { callee := .builtin .append, args := #[x, y], argTypes := #[t, t] }) (ht : slel t = some e) (hx : V3 s.M L S s.N w (.sl e n) (a.eval x)) (hy : V3 s.M L S s.N w (.sl e m) (a.eval y)) (hl : n + m ≤ LIM) (hK : K ⟨putA s.T o.dst (.sl e (n + m)), s.M, Nat.max s.N (n + m)⟩) : o.wp Try.prog a w (Goal B nt w0 S0 K) Q := by
  obtain ⟨A, c, hx', hsx⟩ := (show SV S s.N w (.sl e n) _ from hx)
  obtain ⟨A', c', hy', hsy⟩ := (show SV S s.N w (.sl e m) _ from hy)
  obtain ⟨hu, hz⟩ := slel_ok ht
  obtain ⟨i, z, hi, hs, hzz, hzs, hb0, hb1, hzt⟩ := esz_info hz
  have hmax : s.N ≤ Nat.max s.N (n + m) := Nat.le_max_left _ _
  have hmax2 : n + m ≤ Nat.max s.N (n + m) := Nat.le_max_right _ _
  have hsrc : ∃ news, Src Try.prog i.size t (.slice A' m c') m news w ∧ (∀ (j : Nat) (v : Value), news[j]? = some v → ∃ ty, (lay e)[j % esz e]? = some ty ∧ CV S s.N w ty v) := by
    rcases slice_cells hR.wt hsy with ⟨rfl, rfl, rfl⟩ | ⟨g, q, vs, rfl, _, h1, h2, h3, _⟩
    · exact ⟨[], Src.ofNil w hu 0, fun j v hj => by simp at hj⟩
    · exact ⟨vs, Src.ofSlice w hu _ m c' vs (by rw [hs]; exact h1) (fun j u hj => by rw [Addr_add]; exact h2 j u hj) (fun u hu' => by
        obtain ⟨j, hj, rfl⟩ := List.mem_iff_getElem.1 hu'
        obtain ⟨ty, _, hcv⟩ := h3 j _ (List.getElem?_eq_getElem hj)
        exact CV_one hcv), h3⟩
  obtain ⟨news, hS, hnt⟩ := hsrc
  have hnl : news.length = m * esz e := by rw [hS.newsLen, hs]
  have hres : ∀ v w', (Builtin.append_ #[t, t] o.type #[a.eval x, a.eval y]).run Try.prog w = .ok v w' → (execOp a.eval o).run Try.prog w = .ok (.value v) w' := by
    intro v w' h
    have e2 : (#[x, y].map a.eval) = #[a.eval x, a.eval y] := by simp
    simp only [execOp, hop, resolve, Sem.run_bind, Sem.run_pure, Result.andThen_ok, invoke, builtin, e2, h]
  rcases Nat.lt_or_ge c (n + m) with hg | hroom
  · -- a new row
    have holds : ∃ olds : List Value, (Builtin.firstCells i.size n (.slice A n c)).run Try.prog w.drew = .ok olds.toArray w.drew ∧ olds.length = n * esz e ∧ (∀ (j : Nat) (v : Value), olds[j]? = some v → ∃ ty, (lay e)[j % esz e]? = some ty ∧ CV S s.N w ty v) := by
      rcases slice_cells hR.wt hsx with ⟨rfl, rfl, rfl⟩ | ⟨g, q, vs, rfl, _, h1, h2, h3, _⟩
      · exact ⟨[], run_firstCells_none w.drew i.size 0 0 0, by simp, fun j v hj => by simp at hj⟩
      · exact ⟨vs, run_firstCells_some w.drew i.size n _ n c vs (by rw [hs]; exact h1) (fun j u hj => by rw [Addr_add]; simpa using h2 j u hj), h1, h3⟩
    obtain ⟨olds, ho, hol, hot⟩ := holds
    have hL : LIM = 1099511627776 := rfl
    have hbb : (n + m) * i.bytes ≤ 1099511627776 * 128 := Nat.mul_le_mul hl hb1
    have hl2 : n + m ≤ 1099511627776 := hl
    clear hL hl
    have hbb2 : (n + m) * i.bytes ≤ 140737488355328 := hbb
    have h63 : ((n + m : Nat) : Int) ≤ 9223372036854775807 := by omega
    have happ := run_append_grow_src w t t o.type e i z hu hi hzz A n c olds ho (.slice A' m c') m news hS hg h63 (growslice_fits hg hbb2)
    rw [← hx', ← hy'] at happ
    have hcap := grownCap_ge w (n + m) c e
    generalize grownCap w (n + m) c e = cap at happ hcap
    have hsize : ((olds ++ news).toArray ++ Builtin.zeroCells z.cells (cap - (n + m))).size = cap * esz e := by
      simp [size_zeroCells, hol, hnl, hzs]
      rw [← Nat.add_mul, ← Nat.add_mul, Nat.add_sub_cancel' hcap]
    have hfit : Fit S s.N w e ((olds ++ news).toArray ++ Builtin.zeroCells z.cells (cap - (n + m))) := by
      refine ⟨hz, ⟨cap, hsize⟩, fun j hj => ?_⟩
      by_cases h1 : j < n * esz e
      · have hv : olds[j]? = some (olds[j]'(by omega)) := List.getElem?_eq_getElem _
        obtain ⟨ty, h2, h3⟩ := hot j _ hv
        refine ⟨_, ty, ?_, h2, h3⟩
        rw [Array.getElem?_append_left (by simp; omega)]
        rw [List.getElem?_toArray, List.getElem?_append_left (by omega), hv]
      · by_cases h2 : j < n * esz e + m * esz e
        · have hv : news[j - n * esz e]? = some (news[j - n * esz e]'(by omega)) := List.getElem?_eq_getElem _
          obtain ⟨ty, h3, h4⟩ := hnt _ _ hv
          refine ⟨_, ty, ?_, ?_, h4⟩
          · rw [Array.getElem?_append_left (by simp; omega)]
            rw [List.getElem?_toArray, List.getElem?_append_right (by omega), hol, hv]
          · have : j = (j - n * esz e) + n * esz e := by omega
            rw [this, Nat.add_mul_mod_self_right]
            exact h3
        · have hm : j % esz e < esz e := Nat.mod_lt _ hz
          obtain ⟨v, ty, h3, h4, h5⟩ := hzt S s.N w _ hm
          refine ⟨v, ty, ?_, h4, h5⟩
          rw [Array.getElem?_append_right (by simp; omega)]
          have e1 : (olds ++ news).toArray.size = (n + m) * esz e := by simp [hol, hnl, Nat.add_mul]
          have hj2 : j - (n + m) * esz e < (cap - (n + m)) * z.cells.size := by
            rw [hsize] at hj
            rw [hzs, Nat.sub_mul]
            rw [Nat.add_mul] at *
            omega
          have hmod : (j - (n + m) * esz e) % z.cells.size = j % esz e := by
            rw [hzs]
            have : j = (j - (n + m) * esz e) + (n + m) * esz e := by rw [Nat.add_mul]; omega
            conv => rhs; rw [this, Nat.add_mul_mod_self_right]
          rw [e1]
          unfold Builtin.zeroCells
          rw [Array.getElem?_map, Array.getElem?_range, if_pos hj2]
          simp only [Option.map_some, hmod]
          rw [getElem!_def, h3]
    have hW : WT S s.N w.drew B := hR.wt
    have hR0 : Rel B nt w0 S0 s S L a w.drew := ⟨hR.defers, hR.size, ⟨hR.out.s, hR.out.new, hR.out.size, hR.out.keep, hR.out.b, hR.out.os, hR.out.tape, hR.out.output⟩, hR.wt, hR.tm, hR.loc, hR.inj, hR.big, hR.base⟩
    have hR' := hR0.row (w := w.drew) (e := e) (cells := (olds ++ news).toArray ++ Builtin.zeroCells z.cells (cap - (n + m))) hfit hmax
    refine wp_val (hres _ _ happ) ⟨_, _, L, hK, hR'.put hd (V3_of_V2 (V2_of_V1 (V1_of_SV ⟨_, _, rfl, hmax2, hcap, hz, .inr ⟨w.heap.size, 0, cap, by simp, .inr rfl, ?_, by omega⟩⟩)))⟩
    rw [← hsize]
    exact bk_new (w := w.drew)
  · -- room
    by_cases hm0 : m = 0
    · subst hm0
      have hn0 : news = [] := List.eq_nil_of_length_eq_zero (by rw [hnl]; simp)
      subst hn0
      have happ := run_append_nothing w t t o.type e i hu hi A n c hsx.2.1 (.slice A' 0 c') hS
      rw [← hx', ← hy'] at happ
      have hR' := hR.to (Out.refl S w) (hR.wt.same (N' := Nat.max s.N (n + 0)) hmax (Nat.le_refl _) (fun _ _ => rfl)) hmax
      exact wp_val (hres _ _ happ) ⟨_, S, L, hK, hR'.put hd (V3_of_V2 (V2_of_V1 (V1_of_SV ⟨A, c, by simp [hx'], SLT.gro ⟨fun _ h => h, hmax, fun _ _ _ _ h => h⟩ hsx⟩)))⟩
    · rcases slice_cells hR.wt hsx with ⟨rfl, rfl, rfl⟩ | ⟨g, q, vs, rfl, g1, h1, h2, h3, cells, mm, hc, hcm, hq⟩
      · omega
      · have hbnd : (q + n) * esz e + m * esz e ≤ mm * esz e := by
          rw [← Nat.add_mul]
          exact Nat.mul_le_mul_right _ (by omega)
        rw [Nat.add_mul] at hbnd
        have happ := run_append_room_src w t t o.type e i hu hi g (q * esz e) n c (.slice A' m c') m news hS hroom (fun j hj => by
            rw [hs, cellAt hc, Array.getElem?_eq_getElem (by omega)]; rfl) (fun j hj => by simp [World.frozen?, hc])
        rw [← hx', ← hy'] at happ
        rw [hs] at happ
        have hw := wr_setCells (g := g) (t := e) news (q * esz e + n * esz e) cells w hc (by omega)
        have hbk : Bk w g e (mm * esz e) := ⟨cells, hc, hcm⟩
        have hW := hR.wt.wr hw hbk hz g1 (fun j v hj => by
          obtain ⟨ty, e1, e2⟩ := hnt j v hj
          refine ⟨ty, ?_, e2⟩
          rw [← Nat.add_mul, Nat.add_comm, Nat.add_mul_mod_self_right]
          exact e1)
        have hG := hw.gro S s.N
        have hW' : WT S (Nat.max s.N (n + m)) (w.setCells g (q * esz e + n * esz e) news) B := hW.same hmax (Nat.le_refl _) (fun _ _ => rfl)
        have hR' := hR.to (hw.out g1) hW' hmax
        exact wp_val (hres _ _ happ) ⟨_, S, L, hK, hR'.put hd (V3_of_V2 (V2_of_V1 (V1_of_SV ⟨_, c, rfl, hmax2, hroom, hz, .inr ⟨g, q, mm, rfl, g1, hw.bk hbk, by omega⟩⟩)))⟩
/-! ### tables: a slice of numbers in a block of one's own -/
theorem fill_tab (hR : Rel B nt w0 S0 s S L a w) : ∀ (ps : List (Nat × Operand)) (k : Nat) {l : List X} {vals d r : List AV} {cs : Array Value}, annElems k ps = some l → tabL s.T l = some vals → d.length = k → r.length = l.length → F2 (SV S s.N w) (d ++ r) cs.toList →
    ∃ cs' : Array Value, Instr.fill (fun i => some (i * esz 3, esz 3)) cs (ps.map fun (i, x) => (i, a.eval x)) = some cs' ∧ F2 (SV S s.N w) (d ++ vals) cs'.toList
  | [], k, l, vals, d, r, cs, hp, hv, hd, hr, hf => by
    simp only [annElems, Option.some.injEq] at hp
    subst hp
    simp only [tabL, Option.some.injEq] at hv
    subst hv
    obtain rfl : r = [] := List.length_eq_zero_iff.1 hr
    exact ⟨cs, rfl, hf⟩
  | (i, x) :: ps, k, l, vals, d, r, cs, hp, hv, hd, hr, hf => by
    simp only [annElems] at hp
    split at hp
    · rename_i hik
      subst hik
      split at hp
      · rename_i y l' h2 h3
        injection hp with hp
        subst hp
        simp only [tabL] at hv
        split at hv
        · rename_i q vals' h4 h5
          injection hv with hv
          subst hv
          have hx := annX_ok h2 hR
          rw [h4] at hx
          have hx : a.eval x = .int .i64 q := hx
          match r, hr with
          | r0 :: r', hr =>
            simp at hr
            have hlen := F2.length hf
            simp at hlen
            obtain ⟨cs1, e1, e2⟩ := fill_one (fun i => some (i * esz 3, esz 3)) rfl (i := i) (v := a.eval x) (cs := cs) (by rw [hx]; rfl) (by show i * 1 + 1 ≤ cs.size; omega) (ps.map fun (i, x) => (i, a.eval x))
            have hf1 : F2 (SV S s.N w) ((d ++ [.int q]) ++ r') cs1.toList := by
              rw [e1, hx]
              have t1 := F2.take i hf
              have t2 := F2.drop (i + 1) hf
              rw [List.take_left' hd] at t1
              rw [show d ++ r0 :: r' = (d ++ [r0]) ++ r' by simp, List.drop_left' (by simp [hd])] at t2
              have e3 : i * esz 3 = i := by show i * 1 = i; omega
              rw [e3]
              exact F2.append (F2.append t1 (show F2 (SV S s.N w) [AV.int q] [Value.int .i64 q] from ⟨rfl, trivial⟩)) t2
            obtain ⟨cs', e3, e4⟩ := fill_tab hR ps (i + 1) h3 h5 (by simp [hd]) (by omega) hf1
            exact ⟨cs', by rw [List.map_cons, e2]; exact e3, by simpa using e4⟩
        · cases hv
      · cases hp
    · cases hp
theorem op_tab (hR : Rel B nt w0 S0 s S L a w) (hd : ∀ k, o.dst = some k → k < nt) {n dd : Nat} {ps : Array (Nat × Operand)} (hop : o.op = .buildSlice 57 n ps) {l : List X} (hl : annElems 0 ps.toList = some l) (hn : n = l.length) (h16 : n ≤ 16) (h0 : 0 < n) {vals : List AV} (hv : tabL s.T l = some vals) (hvl : vals.length = n) (hK : K ⟨putA s.T o.dst (.osl dd ((s.M dd).1 + 1) vals.length), upd s.M dd ((s.M dd).1 + 1, vals), s.N⟩) : o.wp Try.prog a w (Goal B nt w0 S0 K) Q := by
  obtain ⟨hu, hz⟩ := slel_ok (show slel 57 = some 3 from rfl)
  obtain ⟨_, i, zv, hi, hzv, hs, hzf⟩ := zero_ok (show zeroA 3 = some [.int 0] from rfl)
  have hzc := hzf S s.N w
  have hz1 : zv.cells = #[.int .i64 0] := by
    revert hzc
    generalize zv.cells = q
    intro hzc
    obtain ⟨c⟩ := q
    match c, hzc with
    | [u], h => obtain rfl := (show u = Value.int .i64 0 from h.1); rfl
    | [], h => exact h.elim
    | _ :: _ :: _, h => exact h.2.elim
  have hes : esz 3 = 1 := rfl
  have hcs0 : F2 (SV S s.N w) ([] ++ (List.range n).map (fun _ => AV.int 0)) ((Array.range (n * esz 3)).map (fun x => zv.cells[x % zv.cells.size]!)).toList := by
    rw [hes, Nat.mul_one, Array.toList_map, Array.toList_range, List.nil_append]
    exact F2.map _ (fun x _ => by rw [hz1]; show _ = _; simp [Nat.mod_one])
  obtain ⟨cs', e1, e2⟩ := fill_tab hR ps.toList 0 hl hv rfl (by simp [hn]) hcs0
  have hR' := hR.new dd 3 (l := vals) (cells := cs') e2
  have hv3 : V3 (upd s.M dd ((s.M dd).1 + 1, vals)) (upd L dd w.heap.size) S s.N (w.alloc (.cells cs' 3 (0, 0))) (.osl dd ((s.M dd).1 + 1) vals.length) (.slice (some ⟨w.heap.size, 0, none⟩) n n) := by
    rw [hvl]
    exact ⟨by simp [upd], w.heap.size, ⟨n, rfl⟩, fun _ => by simp [upd]⟩
  refine wp_val (v := .slice (some ⟨w.heap.size, 0, none⟩) n n) (w' := w.alloc (.cells cs' 3 (0, 0))) ?_ ⟨_, S, _, hK, hR'.put hd hv3⟩
  have e4 : (ps.map fun (i, x) => (i, a.eval x)).toList = ps.toList.map fun (i, x) => (i, a.eval x) := by simp
  have hsz : ∀ w, (sizeOf 3).run Try.prog w = .ok (esz 3) w := fun w => by simp [sizeOf, typeInfo, hi, hs, hes]
  have hb24 : ¬ (n * esz 3 > 2 ^ 24) := by rw [hes]; omega
  have hn0 : ¬ (n * esz 3 = 0) := by rw [hes]; omega
  simp only [execOp, hop, Instr.buildSlice, Sem.run_bind, run_underlying hu, Result.andThen_ok, hsz, if_neg hb24, Sem.run_pure, e4, if_neg hn0, zeroValue, typeInfo, run_program, hi, hzv, e1]
  simp [newRow]
theorem op_iat (hR : Rel B nt w0 S0 s S L a w) (hd : ∀ k, o.dst = some k → k < nt) {x i : Operand} {t b v n : Nat} {k : Int} (hop : o.op = .indexAddr t x i) (ht : slel t = some 3) (hx : V3 s.M L S s.N w (.osl b v n) (a.eval x)) (hi : V3 s.M L S s.N w (.int k) (a.eval i)) (h0 : 0 ≤ k) (h1 : k < (n : Int)) (hK : K ⟨putA s.T o.dst (.optr b v n), s.M, s.N⟩) : o.wp Try.prog a w (Goal B nt w0 S0 K) Q := by
  obtain ⟨g1, g, ⟨c, hx'⟩, g2⟩ := hx
  have hi' : a.eval i = .int .i64 k := hi
  obtain ⟨inf, z, hinf, hsz, _⟩ := esz_info (show 0 < esz 3 by decide)
  refine pure_fin hR hd (v := .pointer (some ⟨g, 0 + k.toNat * esz 3, none⟩)) (r := .optr b v n) ?_ ⟨g1, g, ⟨_, rfl, ?_⟩, g2⟩ hK
  · simp [execOp, hop, hx', hi', Instr.indexAt, asIntOf, run_underlying (slel_ok ht).1, h0, h1, sizeOf, typeInfo, hinf, hsz, Addr_add]
  · show 0 + k.toNat * 1 < n
    omega
theorem op_ldt (hR : Rel B nt w0 S0 s S L a w) (hd : ∀ k, o.dst = some k → k < nt) {x : Operand} {t : Nat} (hop : o.op = .load t x) (ht : tsz t = some (1, false)) {b v n : Nat} (hx : V3 s.M L S s.N w (.optr b v n) (a.eval x)) (hv : v = (s.M b).1) (hl : n = (s.M b).2.length) (hn : 0 < n) (hK : ∀ r, r ∈ (s.M b).2 → K ⟨putA s.T o.dst r, s.M, s.N⟩) : o.wp Try.prog a w (Goal B nt w0 S0 K) Q := by
  obtain ⟨_, g, ⟨p, hx', hp⟩, g2⟩ := hx
  have hg := g2 hv
  subst hg
  have hne : (s.M b).2 ≠ [] := by intro e; rw [e] at hl; simp at hl; omega
  obtain ⟨_, _, cells, ty, hc, hf⟩ := hR.loc b hne
  have hlen := F2.length hf
  simp at hlen
  have hr : (s.M b).2[p]? = some ((s.M b).2[p]'(by omega)) := List.getElem?_eq_getElem (by omega)
  obtain ⟨u, hu, hs⟩ := F2.get hf hr
  have e := run_loadVar (w := w) ht (ad := ⟨L b, p, none⟩) (vs := [u]) rfl (fun j q hj => by
    match j, hj with
    | 0, hj =>
      simp at hj
      subst hj
      rw [Addr_add, cellAt hc]
      simpa using hu)
  exact pure_fin hR hd (v := u) (by simp [execOp, hop, hx', Instr.loadAt, Instr.sureAddr, e, mkV]) (V3_of_V2 (V2_of_V1 (V1_of_SV hs))) (hK _ (List.getElem_mem _))
end
end Go.Proofs.Ytipfdcmjcelbiaa.Safe
end
