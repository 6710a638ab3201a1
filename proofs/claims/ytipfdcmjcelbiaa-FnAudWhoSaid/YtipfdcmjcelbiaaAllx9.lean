-- Written by the session's own program wip/allprint.py, which drives the kit's print; Lean checks it.
import Derived.Test.YtipfdcmjcelbiaaAllx0
namespace Go.Proofs.Ytipfdcmjcelbiaa.All
open Go.RowKit Go.Proofs.YtipfdcmjcelbiaaW.PrintWords Go.Proofs.YtipfdcmjcelbiaaW.PrintLast Go.Proofs.YtipfdcmjcelbiaaW.PrintMore
attribute [local go_sem] max2_int min2_int max_two min_two max_three min_three max_four min_four   -- for this text's walks alone
set_option linter.unusedVariables false
set_option linter.unusedSimpArgs false

/-! ### impl_AudWho: function 11 (by hand) -/
/-- Rows of an audit's lines, told by their users alone. -/
def kU : Kd Int where
  sz := 9
  E := []
  K := fun _ x cs => ∃ t, cs = Value.int .i64 x :: t ∧ t.length = 8 ∧ ∀ u ∈ t, u.oneCell' = true
  M := fun _ _ _ x cs => ∃ t, cs = Value.int .i64 x :: t ∧ t.length = 8 ∧ ∀ u ∈ t, u.oneCell' = true
  K_len := by
    rintro w x cs ⟨t, rfl, h, _⟩
    rw [List.length_cons, h]
  K_one := by
    rintro w x cs ⟨t, rfl, _, h⟩ u hu
    rcases List.mem_cons.1 hu with rfl | hu
    · rfl
    · exact h u hu
  K_below := fun _ h => h
  K_of_M := fun h => h
  M_mono := fun _ h => h
  M_bound := fun h => h
  M_move := fun _ h => h
  M_lower := fun _ h => h
theorem kU_of {w : World} {x : S65} {cs : List Value} (h : k65.K w x cs) : kU.K w x.f0.f0 cs := by
  have h1 := k65.K_one h
  obtain ⟨A7, c7, rfl, _⟩ := k65_open h
  exact ⟨_, rfl, rfl, fun u hu => h1 u (List.mem_cons_of_mem _ hu)⟩
def users (l : List S65) : List Int := l.map fun s => s.f0.f0
theorem users_reads {w : World} {A : Option Addr} {l : List S65} (h : Kd.C k65 w A l.length l) : Kd.C kU w A (users l).length (users l) := by
  obtain ⟨h1, h2, h3⟩ := h
  have hl : (users l).length = l.length := by unfold users; rw [List.length_map]
  refine ⟨rfl, by rw [hl]; exact h2, fun hn => ?_⟩
  obtain ⟨ad, e, hc⟩ := h3 (by omega)
  refine ⟨ad, e, fun j p hj => ?_⟩
  unfold users at hj
  rw [List.getElem?_map] at hj
  obtain ⟨s, hs, rfl⟩ := Option.map_eq_some_iff.mp hj
  obtain ⟨c, c1, c2, c3⟩ := hc j s hs
  exact ⟨c, c1, kU_of c2, c3⟩
theorem eight (t : List Value) (h : t.length = 8) : ∃ c1 c2 c3 c4 c5 c6 c7 c8, t = [c1, c2, c3, c4, c5, c6, c7, c8] := by
  match t, h with
  | [c1, c2, c3, c4, c5, c6, c7, c8], _ => exact ⟨c1, c2, c3, c4, c5, c6, c7, c8, rfl⟩
theorem at_U {w : World} {A : Option Addr} {n : Nat} {xs : List Int} (h : Kd.C kU w A n xs) (i : Int) (h0 : 0 ≤ i) (h1 : i < n) : ∃ ad c1 c2 c3 c4 c5 c6 c7 c8, A = some ad ∧ w.cell? (ad.add (i.toNat * 9)) = some (.int .i64 (rd xs i)) ∧ w.cell? ⟨(ad.add (i.toNat * 9)).block, (ad.add (i.toNat * 9)).off + 1, none⟩ = some c1 ∧ w.cell? ⟨(ad.add (i.toNat * 9)).block, (ad.add (i.toNat * 9)).off + 2, none⟩ = some c2 ∧ w.cell? ⟨(ad.add (i.toNat * 9)).block, (ad.add (i.toNat * 9)).off + 3, none⟩ = some c3 ∧ w.cell? ⟨(ad.add (i.toNat * 9)).block, (ad.add (i.toNat * 9)).off + 4, none⟩ = some c4 ∧ w.cell? ⟨(ad.add (i.toNat * 9)).block, (ad.add (i.toNat * 9)).off + 5, none⟩ = some c5 ∧ w.cell? ⟨(ad.add (i.toNat * 9)).block, (ad.add (i.toNat * 9)).off + 6, none⟩ = some c6 ∧ w.cell? ⟨(ad.add (i.toNat * 9)).block, (ad.add (i.toNat * 9)).off + 7, none⟩ = some c7 ∧ w.cell? ⟨(ad.add (i.toNat * 9)).block, (ad.add (i.toNat * 9)).off + 8, none⟩ = some c8 := by
  obtain ⟨ad, c, e, _, ⟨t, hc, ht, _⟩, hc0⟩ := Kd.C_get h 0 i h0 h1
  obtain ⟨c1, c2, c3, c4, c5, c6, c7, c8, rfl⟩ := eight t ht
  subst hc
  have hc : ∀ j u, [Value.int .i64 (xs.getD i.toNat 0), c1, c2, c3, c4, c5, c6, c7, c8][j]? = some u → w.cell? (ad.add (i.toNat * 9 + j)) = some u := hc0
  exact ⟨ad, c1, c2, c3, c4, c5, c6, c7, c8, e, hc 0 _ rfl, by rw [← add_field _ _ 1 (by omega)]; exact hc 1 _ rfl, by rw [← add_field _ _ 2 (by omega)]; exact hc 2 _ rfl, by rw [← add_field _ _ 3 (by omega)]; exact hc 3 _ rfl, by rw [← add_field _ _ 4 (by omega)]; exact hc 4 _ rfl, by rw [← add_field _ _ 5 (by omega)]; exact hc 5 _ rfl, by rw [← add_field _ _ 6 (by omega)]; exact hc 6 _ rfl, by rw [← add_field _ _ 7 (by omega)]; exact hc 7 _ rfl, by rw [← add_field _ _ 8 (by omega)]; exact hc 8 _ rfl⟩
theorem impl_AudWho.pred (lim x : Int) (B : Nat) (W : World) (c1 c2 c3 c4 c5 c6 c7 c8 : Value) (hc : W.cell? ⟨B, 0, none⟩ = some (.int .i64 lim)) :
    Calls Try.prog 24 #[.agg #[.int .i64 x, c1, c2, c3, c4, c5, c6, c7, c8], .pointer (some ⟨B, 0, none⟩)] W fun e w' => e = .returned (.bool (x != lim)) ∧ Below W.heap.size W w' := by
  have hu65 := Try.underlying65
  have hu96 := Try.underlying96
  have hB : B < W.heap.size := World.block_lt_of_cell? W _ hc
  have hne : B ≠ W.heap.size := by omega
  go_enter Try.func24, Try.ntmps24
  go_wp2
  all_goals (go_ret; exact ⟨by simp_all, (Below.refl _ W).alloc (Nat.le_refl _) _⟩)
def impl_AudWho.l0 : Nat → List Int → Int → Int → Option (Int)
  | 0, _, _, _ => none
  | k + 1, l, t, x => if x < (l.length : Int) then (if 0 ≤ x then (if rd l x = t then impl_AudWho.l0 k l t (wrap64 (x + 1)) else some x) else none) else some (-1)
set_option maxHeartbeats 8000000 in
set_option maxRecDepth 100000 in
theorem impl_AudWho.idx (k : Nat) (A0 : Option Addr) (c0 : Nat) (l0 : List Int) (a1 : Int) (B : Nat) (r : Int) (w : World) (hr0 : Kd.C kU w A0 l0.length l0) (hc : w.cell? ⟨B, 0, none⟩ = some (.int .i64 a1)) (h : impl_AudWho.l0 k l0 a1 0 = some r) :
    Calls Try.prog 36 #[.slice A0 l0.length c0, .func (.func 24) #[] #[.pointer (some ⟨B, 0, none⟩)]] w fun e w' => e = .returned (.int .i64 r) ∧ Below w.heap.size w w' := by
  have hu65 := Try.underlying65
  have HR0 := Aside0.mk hr0
  have HC := Aside0.mk hc
  clear hr0 hc
  have HB := Aside0.mk (Below.refl w.heap.size w)
  have H' := Aside0.mk h
  clear h
  go_enter Try.func36, Try.ntmps36
  go_wp2
  go_loopg [5, 8] k (fun kq _ v8 w' => ∃ (x : Int), v8 = .int .i64 x ∧ Aside0 (impl_AudWho.l0 kq l0 a1 x = some r) ∧ Aside0 (Below w.heap.size w w'))
  case atStart => exact ⟨0, rfl, H', HB⟩
  case round =>
    clear H' HB
    obtain ⟨x, rfl, HA, HB⟩ := hrel
    cases gk with
    | zero => exact absurd HA.out (by simp [impl_AudWho.l0])
    | succ k1 =>
      have H := HA.out
      clear HA
      simp only [impl_AudWho.l0] at H
      by_cases c1 : x < (l0.length : Int)
      · rw [if_pos c1] at H
        by_cases c2 : 0 ≤ x
        · rw [if_pos c2] at H
          obtain ⟨ad, u1, u2, u3, u4, u5, u6, u7, u8, e, h0, h1, h2, h3, h4, h5, h6, h7, h8⟩ := at_U HR0.out x c2 c1
          cases e
          replace h0 := (HB.out.cell (World.block_lt_of_cell? w _ h0)).trans h0
          replace h1 := (HB.out.cell (World.block_lt_of_cell? w _ h1)).trans h1
          replace h2 := (HB.out.cell (World.block_lt_of_cell? w _ h2)).trans h2
          replace h3 := (HB.out.cell (World.block_lt_of_cell? w _ h3)).trans h3
          replace h4 := (HB.out.cell (World.block_lt_of_cell? w _ h4)).trans h4
          replace h5 := (HB.out.cell (World.block_lt_of_cell? w _ h5)).trans h5
          replace h6 := (HB.out.cell (World.block_lt_of_cell? w _ h6)).trans h6
          replace h7 := (HB.out.cell (World.block_lt_of_cell? w _ h7)).trans h7
          replace h8 := (HB.out.cell (World.block_lt_of_cell? w _ h8)).trans h8
          have hcall := impl_AudWho.pred a1 (rd l0 x) B wr u1 u2 u3 u4 u5 u6 u7 u8 ((HB.out.cell (World.block_lt_of_cell? w _ HC.out)).trans HC.out)
          have c1b : decide (x < (l0.length : Int)) = true := decide_eq_true c1
          have c2b : decide (0 ≤ x) = true := decide_eq_true c2
          replace c2 := eq_true c2
          replace c1 := eq_true c1
          by_cases c3 : rd l0 x = a1
          · rw [if_pos c3] at H
            rw [bne_eq_false_iff_eq.mpr c3] at hcall
            clear c3
            have H' := Aside0.mk H
            clear H
            go_wp2_with (go_at_call 24; refine hcall.mono ?_; rintro e w' ⟨rfl, hb⟩)
            go_roundg k1
            case measure => omega
            case rel => exact ⟨_, rfl, H', ⟨below_step HB.out hb⟩⟩
          · rw [if_neg c3] at H
            obtain rfl : x = r := Option.some.inj H
            rw [bne_iff_ne.mpr c3] at hcall
            clear c3 H
            go_wp2_with (go_at_call 24; refine hcall.mono ?_; rintro e w' ⟨rfl, hb⟩)
            go_ret
            exact ⟨rfl, below_step HB.out hb⟩
        · rw [if_neg c2] at H
          exact absurd H (by simp)
      · rw [if_neg c1] at H
        cases H
        have c1b : decide (x < (l0.length : Int)) = false := decide_eq_false c1
        go_wp2
        go_ret
        exact ⟨rfl, HB.out⟩
def cu (l : List Int) (t : Int) : Nat → Int → Int
  | 0, _ => 0
  | n + 1, i => (if rd l i = t then 1 else 0) + cu l t n (i + 1)
theorem cu_nonneg (l : List Int) (t : Int) (n : Nat) : ∀ i, 0 ≤ cu l t n i ∧ cu l t n i ≤ n := by
  induction n with
  | zero => intro i; simp [cu]
  | succ n ih => intro i; have := ih (i + 1); simp only [cu]; split <;> omega
theorem below_sizeK {w0 w : World} (h : Below w0.heap.size w0 w) : w0.heap.size ≤ w.heap.size := h.size
theorem store_runU {P : Program} {ev : Operand → Value} {o : Oper} {t : TypeId} {p x : Operand} {g : Nat} {u : Value} {W w1 : World} (ho : o.op = .store t p x) (haddr : ev p = .pointer (some ⟨g, 0, none⟩)) (hx : ev x = u) (hrun : (Instr.storeAt t (.pointer (some ⟨g, 0, none⟩)) u).run P W = .ok () w1) : (execOp ev o).run P W = .ok .skip w1 := by
  unfold execOp
  simp only [ho, haddr, hx, Sem.run_bind, Sem.run_pure, Result.andThen_ok, hrun]
theorem impl_AudWho.pred_eq (lim x : Int) (B : Nat) (W : World) (c1 c2 c3 c4 c5 c6 c7 c8 : Value) (h : x = lim) (hc : W.cell? ⟨B, 0, none⟩ = some (.int .i64 lim)) : Calls Try.prog 24 #[.agg #[.int .i64 x, c1, c2, c3, c4, c5, c6, c7, c8], .pointer (some ⟨B, 0, none⟩)] W fun e w' => e = .returned (.bool false) ∧ Below W.heap.size W w' := by
  have := impl_AudWho.pred lim x B W c1 c2 c3 c4 c5 c6 c7 c8 hc
  rwa [bne_eq_false_iff_eq.mpr h] at this
theorem impl_AudWho.pred_ne (lim x : Int) (B : Nat) (W : World) (c1 c2 c3 c4 c5 c6 c7 c8 : Value) (h : x ≠ lim) (hc : W.cell? ⟨B, 0, none⟩ = some (.int .i64 lim)) : Calls Try.prog 24 #[.agg #[.int .i64 x, c1, c2, c3, c4, c5, c6, c7, c8], .pointer (some ⟨B, 0, none⟩)] W fun e w' => e = .returned (.bool true) ∧ Below W.heap.size W w' := by
  have := impl_AudWho.pred lim x B W c1 c2 c3 c4 c5 c6 c7 c8 hc
  rwa [bne_iff_ne.mpr h] at this
theorem below_setsU {w0 : World} {g : Nat} (hg : w0.heap.size ≤ g) : ∀ (L : List Value) (o : Nat) (W : World), Below w0.heap.size w0 W → Below w0.heap.size w0 (W.setCells g o L)
  | [], _, _, h => h
  | v :: r, o, W, h => below_setsU hg r (o + 1) _ (below_set h hg)
theorem clearU {W : World} {base g cap n : Nat} {ok : Nat → Prop} {xs : List Int} (h : Kd.R kU 65 W base ok (.slice (some ⟨g, 0, none⟩) n cap) xs) (o m c : Nat) (hm : 0 < m) (ho : o + m * 9 ≤ n * 9) : ∃ L, ∀ ty, (Builtin.clear_ #[32] ty #[.slice (some ⟨g, o, none⟩) m c]).run Try.prog W = .ok (.tuple #[]) (W.setCells g o L) := by
  obtain ⟨hn, hnc0, _⟩ := Kd.R_reads' h
  obtain ⟨_, inner, hown, hr⟩ := h
  rcases hown.2 with ⟨hv, _⟩ | ⟨g', cap', cur, hv, hb, hh, hnc, hcm, hcs, _⟩
  · cases hv
  injection hv with ha _ hc
  injection ha with ha
  injection ha with hg'
  subst hg'
  subst hc
  have hv0 : ∀ w, (zeroValue 65).run Try.prog w = .ok (.agg #[.int .i64 0, .int .i64 0, .int .i64 0, .int .i64 0, .int .i64 0, .int .i64 0, .int .i64 0, .slice none 0 0, .int .i64 0]) w := fun w => by kernel_rfl
  generalize hz : (Builtin.zeroCells (Value.agg #[.int .i64 0, .int .i64 0, .int .i64 0, .int .i64 0, .int .i64 0, .int .i64 0, .int .i64 0, .slice none 0 0, .int .i64 0]).cells m).toList = L
  have hlen : L.length = m * 9 := by
    rw [← hz]
    simp [Builtin.zeroCells, Value.cells]
  have hone : ∀ q ∈ L, q.oneCell' = true := by
    intro q hq
    rw [← hz] at hq
    simp only [Builtin.zeroCells, Array.toList_map, List.mem_map] at hq
    obtain ⟨i, _, rfl⟩ := hq
    have hi : i % 9 < 9 := Nat.mod_lt _ (by decide)
    show (#[Value.int .i64 0, .int .i64 0, .int .i64 0, .int .i64 0, .int .i64 0, .int .i64 0, .int .i64 0, .slice none 0 0, .int .i64 0][i % 9]!).oneCell' = true
    generalize i % 9 = k at hi
    rcases (by omega : k = 0 ∨ k = 1 ∨ k = 2 ∨ k = 3 ∨ k = 4 ∨ k = 5 ∨ k = 6 ∨ k = 7 ∨ k = 8) with rfl | rfl | rfl | rfl | rfl | rfl | rfl | rfl | rfl <;> rfl
  have hsz : n * 9 ≤ cur.size := by
    have h9 : (kU).sz = 9 := rfl
    rw [h9] at hcs
    omega
  have hst := run_storeCells_cells (P := Try.prog) g o L 0 W (fun j hj => by rw [cell_of_row W g _ cur 65 (0, 0) hh]; simp; omega) (fun j _ => blk_frozen hh _) hone
  simp only [Nat.add_zero] at hst
  refine ⟨L, fun ty => ?_⟩
  obtain ⟨q, rfl⟩ : ∃ q, m = q + 1 := ⟨m - 1, by omega⟩
  simp [Builtin.clear_, run_underlying Try.underlying32, hv0, hz, hst]
theorem rd_set_ne (X : List Int) (i m : Int) (x : Int) (h0 : 0 ≤ i) (h : i < m) : rd (X.set i.toNat x) m = rd X m := by
  unfold rd
  rw [List.getD_eq_getElem?_getD, List.getD_eq_getElem?_getD, List.getElem?_set, if_neg (by omega)]
set_option maxHeartbeats 8000000 in
set_option maxRecDepth 100000 in
theorem impl_AudWho.del (g cap B : Nat) (us : List Int) (a1 : Int) (w0 w : World) (hB0 : Below w0.heap.size w0 w) (hR : Kd.R kU 65 w w0.heap.size (fun _ => True) (.slice (some ⟨g, 0, none⟩) us.length cap) us) (hBK : w.heap[B]? = some (.cells #[.int .i64 a1] 3 (0, 0))) (hBg : B ≠ g) (r : Int) (hr : impl_AudWho.l0 (us.length + 1) us a1 0 = some r) (hr1 : r = -1 ∨ (0 ≤ r ∧ r < us.length)) :
    Calls Try.prog 25 #[.slice (some ⟨g, 0, none⟩) us.length cap, .func (.func 24) #[] #[.pointer (some ⟨B, 0, none⟩)]] w fun e w' => ∃ A m c, e = .returned (.slice A m c) ∧ (r = -1 → m = us.length) ∧ (0 ≤ r → (m : Int) = r + cu us a1 (us.length - (r.toNat + 1)) (r + 1)) ∧ Below w0.heap.size w0 w' := by
  have hu65 := Try.underlying65
  have hu32 := Try.underlying32
  obtain ⟨_, hcapn, hCr⟩ := Kd.R_reads' hR
  have hbig : us.length ≤ 9223372036854775807 := hCr.2.1
  have HI := Aside0.mk hr
  have HC := Aside0.mk hCr
  have HB := Aside0.mk hB0
  have BK := Aside0.mk hBK
  have HO := Aside0.mk hR
  clear hr hB0 hBK hR hCr
  rcases hr1 with rfl | ⟨r0, r1⟩
  · go_enter Try.func25, Try.ntmps25
    go_wp2_with (go_at_call 36; refine (impl_AudWho.idx (us.length + 1) (some ⟨g, 0, none⟩) cap us a1 B (-1) _ HC.out ((blk_cell BK.out 0).trans rfl) HI.out).mono ?_; rintro e w2 ⟨rfl, hb⟩)
    go_ret
    exact ⟨_, _, _, rfl, fun _ => rfl, fun h => absurd h (by omega), below_step HB.out hb⟩
  · have rb : (r == -1) = false := beq_eq_false_iff_ne.mpr (by omega)
    go_enter Try.func25, Try.ntmps25
    go_wp2_with (go_at_call 36; refine (impl_AudWho.idx (us.length + 1) (some ⟨g, 0, none⟩) cap us a1 B r _ HC.out ((blk_cell BK.out 0).trans rfl) HI.out).mono ?_; rintro e w2 ⟨rfl, hb⟩; have n0_ := Aside0.mk (below_step HB.out hb); have n1_ := Aside0.mk (Kd.R_below HO.out hb); have n2_ := Aside0.mk (blk_below BK.out hb); clear HB HO BK HC; have HB := n0_; have HO := n1_; have BK := n2_; clear n0_ n1_ n2_ hb)
    generalize htot : r + cu us a1 (us.length - (r.toNat + 1)) (r + 1) = tot
    go_loopg [5, 6] us.length (fun kq v5 v6 W' => ∃ (i j : Int) (X : List Int) (d : Nat), v5 = .int .i64 i ∧ v6 = .int .i64 j ∧ Aside0 (0 ≤ i ∧ i < j ∧ (us.length : Int) - j = d ∧ d ≤ kq ∧ X.length = us.length) ∧ Aside0 (i + cu us a1 d j = tot) ∧ Aside0 (∀ m : Int, j ≤ m → rd X m = rd us m) ∧ Aside0 (Kd.R kU 65 W' w0.heap.size (fun _ => True) (.slice (some ⟨g, 0, none⟩) us.length cap) X) ∧ Aside0 (W'.heap[B]? = some (.cells #[.int .i64 a1] 3 (0, 0))) ∧ Aside0 (Below w0.heap.size w0 W'))
    case atStart => exact ⟨r, r + 1, us, us.length - (r.toNat + 1), rfl, (by first | rfl | rw [show wrap64 (r + 1) = r + 1 by unfold wrap64; omega]), ⟨by omega⟩, ⟨htot⟩, ⟨fun _ _ => rfl⟩, HO, BK, HB⟩
    case round =>
      clear HO BK HB
      obtain ⟨i, j, X, d, rfl, rfl, N, T, E, HO, BK, HB⟩ := hrel
      obtain ⟨i0, hij, hjd, hdk, hX⟩ := N.out
      clear N
      cases d with
      | zero =>
        have c1b : decide (j < (us.length : Int)) = false := decide_eq_false (by omega)
        have hbase : w0.heap.size ≤ g := Kd.R_base HO.out g (by simp [Value.ownBlock])
        obtain ⟨L, hcl⟩ := clearU HO.out (i.toNat * 9) (us.length - i.toNat) (cap - i.toNat) (by omega) (by omega)
        go_wp2
        go_ret
        exact ⟨_, _, _, rfl, fun h => absurd h (by omega), fun _ => by have ht_ := T.out; rw [show cu us a1 0 j = 0 from rfl] at ht_; omega, below_setsU hbase _ _ _ HB.out⟩
      | succ d =>
        have c1b : decide (j < (us.length : Int)) = true := decide_eq_true (by omega)
        have hjn : j < (us.length : Int) := by omega
        have hin : i < (us.length : Int) := by omega
        have j0 : 0 ≤ j := by omega
        obtain ⟨c, hcl, ⟨t, hct, htl, h1t⟩, hcc, hfr⟩ := Kd.R_elem HO.out 0 j j0 hjn
        obtain ⟨c1, c2, c3, c4, c5, c6, c7, c8, rfl⟩ := eight t htl
        subst hct
        have ex : X.getD j.toNat 0 = rd us j := E.out j (Int.le_refl _)
        rw [ex] at hcc
        generalize hx : rd us j = x at hcc
        clear ex hcl
        have hcc : ∀ q u, [Value.int .i64 x, c1, c2, c3, c4, c5, c6, c7, c8][q]? = some u → wr.cell? ⟨g, j.toNat * 9 + q, none⟩ = some u := hcc
        have hk0 : wr.cell? ⟨g, j.toNat * 9, none⟩ = some (.int .i64 x) := hcc 0 _ rfl
        have hk1 : wr.cell? ⟨g, j.toNat * 9 + 1, none⟩ = some c1 := hcc 1 _ rfl
        have hk2 : wr.cell? ⟨g, j.toNat * 9 + 2, none⟩ = some c2 := hcc 2 _ rfl
        have hk3 : wr.cell? ⟨g, j.toNat * 9 + 3, none⟩ = some c3 := hcc 3 _ rfl
        have hk4 : wr.cell? ⟨g, j.toNat * 9 + 4, none⟩ = some c4 := hcc 4 _ rfl
        have hk5 : wr.cell? ⟨g, j.toNat * 9 + 5, none⟩ = some c5 := hcc 5 _ rfl
        have hk6 : wr.cell? ⟨g, j.toNat * 9 + 6, none⟩ = some c6 := hcc 6 _ rfl
        have hk7 : wr.cell? ⟨g, j.toNat * 9 + 7, none⟩ = some c7 := hcc 7 _ rfl
        have hk8 : wr.cell? ⟨g, j.toNat * 9 + 8, none⟩ = some c8 := hcc 8 _ rfl
        clear hcc hfr
        have o1 : c1.oneCell' = true := h1t c1 (by simp)
        have o2 : c2.oneCell' = true := h1t c2 (by simp)
        have o3 : c3.oneCell' = true := h1t c3 (by simp)
        have o4 : c4.oneCell' = true := h1t c4 (by simp)
        have o5 : c5.oneCell' = true := h1t c5 (by simp)
        have o6 : c6.oneCell' = true := h1t c6 (by simp)
        have o7 : c7.oneCell' = true := h1t c7 (by simp)
        have o8 : c8.oneCell' = true := h1t c8 (by simp)
        have c2b : decide (0 ≤ j) = true := decide_eq_true j0
        have d2b : decide (0 ≤ i) = true := decide_eq_true i0
        have d1b : decide (i < (us.length : Int)) = true := decide_eq_true hin
        have j0e := eq_true j0
        have hjne := eq_true hjn
        have i0e := eq_true i0
        have hine := eq_true hin
        by_cases c3x : x = a1
        · have CX := Aside0.mk c3x
          clear c3x
          go_wp2_with (first | ((with_reducible refine gate_dst (N := 7) rfl ?_); refine box_event ?hg (N := 7) ?hd (cs := #[.int .i64 0, .int .i64 0, .int .i64 0, .int .i64 0, .int .i64 0, .int .i64 0, .int .i64 0, .slice none 0 0, .int .i64 0]) (t := 65) ?hr ?_; (case hd => rfl); (case hg => rfl); (case hr => first | (go_simp; done) | (go_simp; rfl)); intro gv hg w5 hbox hb; have n0_ : Aside0 (Kd.R kU 65 w5 w0.heap.size (fun k => k ≠ gv) (.slice (some ⟨g, 0, none⟩) us.length cap) X) := ⟨Kd.R_mono (Kd.R_below (by (with_reducible repeat (first | apply Kd.R_alloc | apply Kd.R_drewN | apply Kd.R_drew)); exact Kd.R_bound HO.out) hb) (fun k hk => by rw [hg]; exact Nat.ne_of_lt hk.2.2.1)⟩; have n1_ := Aside0.mk (below_then (by repeat (first | (with_reducible first | exact HB.out | apply below_alloc | apply pw_below_drewN | apply below_drew1) | exact HB.out)) (below_sizeK HB.out) hb); have n2_ := Aside0.mk hbox; have n3_ := Aside0.mk (blk_below (g := B) (o := .cells #[.int .i64 a1] 3 (0, 0)) (by (with_reducible repeat (first | refine blk_drewN ?_ _ | refine blk_drew ?_ | refine blk_alloc ?_ _)); exact BK.out) hb); have n4_ : Aside0 (B ≠ gv) := ⟨by rw [hg]; exact Nat.ne_of_lt (blk_lt BK.out)⟩; have n6_ : Aside0 (w0.heap.size ≤ gv) := ⟨by rw [hg]; exact below_sizeK HB.out⟩; clear HO HB BK; have HO := n0_; have HB := n1_; have BV := n2_; have BK := n3_; have NB := n4_; have GV := n6_; clear n0_ n1_ n2_ n3_ n4_ n6_; clear hb hbox hg; have hcz0 : w5.cell? ⟨gv, 0, none⟩ = some (.int .i64 0) := (blk_cell BV.out 0).trans rfl; have hfz0 := blk_frozen BV.out 0; have hcz1 : w5.cell? ⟨gv, 1, none⟩ = some (.int .i64 0) := (blk_cell BV.out 1).trans rfl; have hfz1 := blk_frozen BV.out 1; have hcz2 : w5.cell? ⟨gv, 2, none⟩ = some (.int .i64 0) := (blk_cell BV.out 2).trans rfl; have hfz2 := blk_frozen BV.out 2; have hcz3 : w5.cell? ⟨gv, 3, none⟩ = some (.int .i64 0) := (blk_cell BV.out 3).trans rfl; have hfz3 := blk_frozen BV.out 3; have hcz4 : w5.cell? ⟨gv, 4, none⟩ = some (.int .i64 0) := (blk_cell BV.out 4).trans rfl; have hfz4 := blk_frozen BV.out 4; have hcz5 : w5.cell? ⟨gv, 5, none⟩ = some (.int .i64 0) := (blk_cell BV.out 5).trans rfl; have hfz5 := blk_frozen BV.out 5; have hcz6 : w5.cell? ⟨gv, 6, none⟩ = some (.int .i64 0) := (blk_cell BV.out 6).trans rfl; have hfz6 := blk_frozen BV.out 6; have hcz7 : w5.cell? ⟨gv, 7, none⟩ = some (.slice none 0 0) := (blk_cell BV.out 7).trans rfl; have hfz7 := blk_frozen BV.out 7; have hcz8 : w5.cell? ⟨gv, 8, none⟩ = some (.int .i64 0) := (blk_cell BV.out 8).trans rfl; have hfz8 := blk_frozen BV.out 8) | ((with_reducible refine gate_store (t := 65) (p := 7) rfl ?_); refine store_event (t := 65) (p := 7) (v := ?vo) (w1 := (((((((((w5.setCell ⟨gv, 0, none⟩ (.int .i64 x)).setCell ⟨gv, 1, none⟩ (c1)).setCell ⟨gv, 2, none⟩ (c2)).setCell ⟨gv, 3, none⟩ (c3)).setCell ⟨gv, 4, none⟩ (c4)).setCell ⟨gv, 5, none⟩ (c5)).setCell ⟨gv, 6, none⟩ (c6)).setCell ⟨gv, 7, none⟩ (c7)).setCell ⟨gv, 8, none⟩ (c8))) ?hg ?ho ?hn ?hr ?_; (case ho => rfl); (case hg => rfl); (case hn => rfl); (case hr => exact store_runU rfl rfl rfl (run_store_run (P := Try.prog) (w := w5) (g := gv) (o := 0) (e := 65) 65 (.agg #[.int .i64 x, c1, c2, c3, c4, c5, c6, c7, c8]) [.int .i64 x, c1, c2, c3, c4, c5, c6, c7, c8] BV.out rfl (by kernel_rfl) (Nat.le_refl 9) (by intro q hq; rcases List.mem_cons.1 hq with rfl | hq; rfl; exact h1t q hq))); intro w6 hw; have n0_ : Aside0 (w6.heap[gv]? = some (.cells #[.int .i64 x, c1, c2, c3, c4, c5, c6, c7, c8] 65 (0, 0))) := ⟨by rw [hw]; refine blk_put (cs := #[.int .i64 x, c1, c2, c3, c4, c5, c6, c7, .int .i64 0]) ?_ 8 _ rfl; refine blk_put (cs := #[.int .i64 x, c1, c2, c3, c4, c5, c6, .slice none 0 0, .int .i64 0]) ?_ 7 _ rfl; refine blk_put (cs := #[.int .i64 x, c1, c2, c3, c4, c5, .int .i64 0, .slice none 0 0, .int .i64 0]) ?_ 6 _ rfl; refine blk_put (cs := #[.int .i64 x, c1, c2, c3, c4, .int .i64 0, .int .i64 0, .slice none 0 0, .int .i64 0]) ?_ 5 _ rfl; refine blk_put (cs := #[.int .i64 x, c1, c2, c3, .int .i64 0, .int .i64 0, .int .i64 0, .slice none 0 0, .int .i64 0]) ?_ 4 _ rfl; refine blk_put (cs := #[.int .i64 x, c1, c2, .int .i64 0, .int .i64 0, .int .i64 0, .int .i64 0, .slice none 0 0, .int .i64 0]) ?_ 3 _ rfl; refine blk_put (cs := #[.int .i64 x, c1, .int .i64 0, .int .i64 0, .int .i64 0, .int .i64 0, .int .i64 0, .slice none 0 0, .int .i64 0]) ?_ 2 _ rfl; refine blk_put (cs := #[.int .i64 x, .int .i64 0, .int .i64 0, .int .i64 0, .int .i64 0, .int .i64 0, .int .i64 0, .slice none 0 0, .int .i64 0]) ?_ 1 _ rfl; refine blk_put (cs := #[.int .i64 0, .int .i64 0, .int .i64 0, .int .i64 0, .int .i64 0, .int .i64 0, .int .i64 0, .slice none 0 0, .int .i64 0]) ?_ 0 _ rfl; exact BV.out⟩; have n1_ : Aside0 (Kd.R kU 65 w6 w0.heap.size (fun _ => True) (.slice (some ⟨g, 0, none⟩) us.length cap) X) := ⟨by rw [hw]; exact Kd.R_mono (Kd.R_far (p := ⟨gv, 8, none⟩) (Kd.R_far (p := ⟨gv, 7, none⟩) (Kd.R_far (p := ⟨gv, 6, none⟩) (Kd.R_far (p := ⟨gv, 5, none⟩) (Kd.R_far (p := ⟨gv, 4, none⟩) (Kd.R_far (p := ⟨gv, 3, none⟩) (Kd.R_far (p := ⟨gv, 2, none⟩) (Kd.R_far (p := ⟨gv, 1, none⟩) (Kd.R_far (p := ⟨gv, 0, none⟩) HO.out (fun _ hk => hk) (.int .i64 x)) (fun _ hk => hk) (c1)) (fun _ hk => hk) (c2)) (fun _ hk => hk) (c3)) (fun _ hk => hk) (c4)) (fun _ hk => hk) (c5)) (fun _ hk => hk) (c6)) (fun _ hk => hk) (c7)) (fun _ hk => hk) (c8)) (fun _ _ => trivial)⟩; have n2_ : Aside0 (w6.heap[B]? = some (.cells #[.int .i64 a1] 3 (0, 0))) := ⟨by rw [hw]; refine blk_far ?_ NB.out _; refine blk_far ?_ NB.out _; refine blk_far ?_ NB.out _; refine blk_far ?_ NB.out _; refine blk_far ?_ NB.out _; refine blk_far ?_ NB.out _; refine blk_far ?_ NB.out _; refine blk_far ?_ NB.out _; refine blk_far ?_ NB.out _; exact BK.out⟩; have n3_ : Aside0 (Below w0.heap.size w0 w6) := ⟨by rw [hw]; exact (below_set (below_set (below_set (below_set (below_set (below_set (below_set (below_set (below_set HB.out GV.out) GV.out) GV.out) GV.out) GV.out) GV.out) GV.out) GV.out) GV.out)⟩; clear hcz0 hfz0 hcz1 hfz1 hcz2 hfz2 hcz3 hfz3 hcz4 hfz4 hcz5 hfz5 hcz6 hfz6 hcz7 hfz7 hcz8 hfz8; clear BV HO BK HB hw; have BV := n0_; have HO := n1_; have BK := n2_; have HB := n3_; clear n0_ n1_ n2_ n3_; have hcv0 : w6.cell? ⟨gv, 0, none⟩ = some (.int .i64 x) := (blk_cell BV.out 0).trans rfl; have hfv0 := blk_frozen BV.out 0; have hcv1 : w6.cell? ⟨gv, 1, none⟩ = some (c1) := (blk_cell BV.out 1).trans rfl; have hfv1 := blk_frozen BV.out 1; have hcv2 : w6.cell? ⟨gv, 2, none⟩ = some (c2) := (blk_cell BV.out 2).trans rfl; have hfv2 := blk_frozen BV.out 2; have hcv3 : w6.cell? ⟨gv, 3, none⟩ = some (c3) := (blk_cell BV.out 3).trans rfl; have hfv3 := blk_frozen BV.out 3; have hcv4 : w6.cell? ⟨gv, 4, none⟩ = some (c4) := (blk_cell BV.out 4).trans rfl; have hfv4 := blk_frozen BV.out 4; have hcv5 : w6.cell? ⟨gv, 5, none⟩ = some (c5) := (blk_cell BV.out 5).trans rfl; have hfv5 := blk_frozen BV.out 5; have hcv6 : w6.cell? ⟨gv, 6, none⟩ = some (c6) := (blk_cell BV.out 6).trans rfl; have hfv6 := blk_frozen BV.out 6; have hcv7 : w6.cell? ⟨gv, 7, none⟩ = some (c7) := (blk_cell BV.out 7).trans rfl; have hfv7 := blk_frozen BV.out 7; have hcv8 : w6.cell? ⟨gv, 8, none⟩ = some (c8) := (blk_cell BV.out 8).trans rfl; have hfv8 := blk_frozen BV.out 8) | (go_at_call 24; refine (impl_AudWho.pred_eq a1 x B _ c1 c2 c3 c4 c5 c6 c7 c8 CX.out ((blk_cell (t := 3) (cs := #[.int .i64 a1]) (by (with_reducible repeat (first | refine blk_drewN ?_ _ | refine blk_drew ?_ | refine blk_alloc ?_ _)); exact BK.out) 0).trans rfl)).mono ?_; rintro e w7 ⟨rfl, hb⟩; have n0_ := Aside0.mk (blk_below (g := gv) (o := .cells #[.int .i64 x, c1, c2, c3, c4, c5, c6, c7, c8] 65 (0, 0)) (by (with_reducible repeat (first | refine blk_drewN ?_ _ | refine blk_drew ?_ | refine blk_alloc ?_ _)); exact BV.out) hb); have n1_ := Aside0.mk (Kd.R_below (by (with_reducible repeat (first | apply Kd.R_alloc | apply Kd.R_drewN | apply Kd.R_drew)); exact HO.out) hb); have n2_ := Aside0.mk (blk_below (g := B) (o := .cells #[.int .i64 a1] 3 (0, 0)) (by (with_reducible repeat (first | refine blk_drewN ?_ _ | refine blk_drew ?_ | refine blk_alloc ?_ _)); exact BK.out) hb); have n3_ := Aside0.mk (below_then (by repeat (first | (with_reducible first | exact HB.out | apply below_alloc | apply pw_below_drewN | apply below_drew1) | exact HB.out)) (below_sizeK HB.out) hb); clear hcv0 hfv0 hcv1 hfv1 hcv2 hfv2 hcv3 hfv3 hcv4 hfv4 hcv5 hfv5 hcv6 hfv6 hcv7 hfv7 hcv8 hfv8; clear BV HO BK HB hb; have BV := n0_; have HO := n1_; have BK := n2_; have HB := n3_; clear n0_ n1_ n2_ n3_; have hcu0 : w7.cell? ⟨gv, 0, none⟩ = some (.int .i64 x) := (blk_cell BV.out 0).trans rfl; have hfu0 := blk_frozen BV.out 0; have hcu1 : w7.cell? ⟨gv, 1, none⟩ = some (c1) := (blk_cell BV.out 1).trans rfl; have hfu1 := blk_frozen BV.out 1; have hcu2 : w7.cell? ⟨gv, 2, none⟩ = some (c2) := (blk_cell BV.out 2).trans rfl; have hfu2 := blk_frozen BV.out 2; have hcu3 : w7.cell? ⟨gv, 3, none⟩ = some (c3) := (blk_cell BV.out 3).trans rfl; have hfu3 := blk_frozen BV.out 3; have hcu4 : w7.cell? ⟨gv, 4, none⟩ = some (c4) := (blk_cell BV.out 4).trans rfl; have hfu4 := blk_frozen BV.out 4; have hcu5 : w7.cell? ⟨gv, 5, none⟩ = some (c5) := (blk_cell BV.out 5).trans rfl; have hfu5 := blk_frozen BV.out 5; have hcu6 : w7.cell? ⟨gv, 6, none⟩ = some (c6) := (blk_cell BV.out 6).trans rfl; have hfu6 := blk_frozen BV.out 6; have hcu7 : w7.cell? ⟨gv, 7, none⟩ = some (c7) := (blk_cell BV.out 7).trans rfl; have hfu7 := blk_frozen BV.out 7; have hcu8 : w7.cell? ⟨gv, 8, none⟩ = some (c8) := (blk_cell BV.out 8).trans rfl; have hfu8 := blk_frozen BV.out 8) | ((with_reducible refine gate_store (t := 65) (p := 33) rfl ?_); obtain ⟨ci, hci, _, hcci, _⟩ := Kd.R_elem HO.out 0 i i0 hin; refine Kd.R_store kU (w0 := w0) w0.heap.size rfl rfl 65 (.tmp 33) (.tmp 32) rfl 65 i 0 X x (.agg #[.int .i64 x, c1, c2, c3, c4, c5, c6, c7, c8]) [.int .i64 x, c1, c2, c3, c4, c5, c6, c7, c8] ci (fun _ => True) (fun _ => False) rfl rfl rfl rfl (by kernel_rfl) (by intro q hq; rcases List.mem_cons.1 hq with rfl | hq; rfl; exact h1t q hq) HO.out i0 hin hci hcci (Nat.le_refl 9) ⟨[c1, c2, c3, c4, c5, c6, c7, c8], by rw [List.take_zero, List.nil_append, List.drop_eq_nil_of_le (by rw [hci]; exact Nat.le_refl 9), List.append_nil], rfl, h1t⟩ (fun _ h => h.elim) HB.out ?_; intro w8 ho hb hg; have n0_ := Aside0.mk ho; have n1_ := Aside0.mk hb; have n2_ := Aside0.mk (blk_grown (g := B) BK.out hg (by intro e_; injection e_ with e_; exact hBg e_)); clear HO HB BK; have HO := n0_; have HB := n1_; have BK := n2_; clear n0_ n1_ n2_; clear ho hb hg hci hcci))
          go_roundg d
          case measure => omega
          case rel => exact ⟨i + 1, j + 1, (X.set i.toNat x), d, rfl, rfl, ⟨by rw [List.length_set]; omega⟩, ⟨by have ht_ := T.out; rw [show cu us a1 (d + 1) j = (if rd us j = a1 then 1 else 0) + cu us a1 d (j + 1) from rfl, hx, if_pos CX.out] at ht_; omega⟩, ⟨fun m hm => by rw [rd_set_ne X i m x i0 (by omega)]; exact E.out m (by omega)⟩, ⟨by (with_reducible repeat (first | apply Kd.R_alloc | apply Kd.R_drewN | apply Kd.R_drew)); exact HO.out⟩, ⟨by (with_reducible repeat (first | refine blk_drewN ?_ _ | refine blk_drew ?_ | refine blk_alloc ?_ _)); exact BK.out⟩, ⟨(by repeat (first | (with_reducible first | exact HB.out | apply below_alloc | apply pw_below_drewN | apply below_drew1) | exact HB.out))⟩⟩
        · have CX := Aside0.mk c3x
          clear c3x
          go_wp2_with (first | ((with_reducible refine gate_dst (N := 7) rfl ?_); refine box_event ?hg (N := 7) ?hd (cs := #[.int .i64 0, .int .i64 0, .int .i64 0, .int .i64 0, .int .i64 0, .int .i64 0, .int .i64 0, .slice none 0 0, .int .i64 0]) (t := 65) ?hr ?_; (case hd => rfl); (case hg => rfl); (case hr => first | (go_simp; done) | (go_simp; rfl)); intro gv hg w5 hbox hb; have n0_ : Aside0 (Kd.R kU 65 w5 w0.heap.size (fun k => k ≠ gv) (.slice (some ⟨g, 0, none⟩) us.length cap) X) := ⟨Kd.R_mono (Kd.R_below (by (with_reducible repeat (first | apply Kd.R_alloc | apply Kd.R_drewN | apply Kd.R_drew)); exact Kd.R_bound HO.out) hb) (fun k hk => by rw [hg]; exact Nat.ne_of_lt hk.2.2.1)⟩; have n1_ := Aside0.mk (below_then (by repeat (first | (with_reducible first | exact HB.out | apply below_alloc | apply pw_below_drewN | apply below_drew1) | exact HB.out)) (below_sizeK HB.out) hb); have n2_ := Aside0.mk hbox; have n3_ := Aside0.mk (blk_below (g := B) (o := .cells #[.int .i64 a1] 3 (0, 0)) (by (with_reducible repeat (first | refine blk_drewN ?_ _ | refine blk_drew ?_ | refine blk_alloc ?_ _)); exact BK.out) hb); have n4_ : Aside0 (B ≠ gv) := ⟨by rw [hg]; exact Nat.ne_of_lt (blk_lt BK.out)⟩; have n6_ : Aside0 (w0.heap.size ≤ gv) := ⟨by rw [hg]; exact below_sizeK HB.out⟩; clear HO HB BK; have HO := n0_; have HB := n1_; have BV := n2_; have BK := n3_; have NB := n4_; have GV := n6_; clear n0_ n1_ n2_ n3_ n4_ n6_; clear hb hbox hg; have hcz0 : w5.cell? ⟨gv, 0, none⟩ = some (.int .i64 0) := (blk_cell BV.out 0).trans rfl; have hfz0 := blk_frozen BV.out 0; have hcz1 : w5.cell? ⟨gv, 1, none⟩ = some (.int .i64 0) := (blk_cell BV.out 1).trans rfl; have hfz1 := blk_frozen BV.out 1; have hcz2 : w5.cell? ⟨gv, 2, none⟩ = some (.int .i64 0) := (blk_cell BV.out 2).trans rfl; have hfz2 := blk_frozen BV.out 2; have hcz3 : w5.cell? ⟨gv, 3, none⟩ = some (.int .i64 0) := (blk_cell BV.out 3).trans rfl; have hfz3 := blk_frozen BV.out 3; have hcz4 : w5.cell? ⟨gv, 4, none⟩ = some (.int .i64 0) := (blk_cell BV.out 4).trans rfl; have hfz4 := blk_frozen BV.out 4; have hcz5 : w5.cell? ⟨gv, 5, none⟩ = some (.int .i64 0) := (blk_cell BV.out 5).trans rfl; have hfz5 := blk_frozen BV.out 5; have hcz6 : w5.cell? ⟨gv, 6, none⟩ = some (.int .i64 0) := (blk_cell BV.out 6).trans rfl; have hfz6 := blk_frozen BV.out 6; have hcz7 : w5.cell? ⟨gv, 7, none⟩ = some (.slice none 0 0) := (blk_cell BV.out 7).trans rfl; have hfz7 := blk_frozen BV.out 7; have hcz8 : w5.cell? ⟨gv, 8, none⟩ = some (.int .i64 0) := (blk_cell BV.out 8).trans rfl; have hfz8 := blk_frozen BV.out 8) | ((with_reducible refine gate_store (t := 65) (p := 7) rfl ?_); refine store_event (t := 65) (p := 7) (v := ?vo) (w1 := (((((((((w5.setCell ⟨gv, 0, none⟩ (.int .i64 x)).setCell ⟨gv, 1, none⟩ (c1)).setCell ⟨gv, 2, none⟩ (c2)).setCell ⟨gv, 3, none⟩ (c3)).setCell ⟨gv, 4, none⟩ (c4)).setCell ⟨gv, 5, none⟩ (c5)).setCell ⟨gv, 6, none⟩ (c6)).setCell ⟨gv, 7, none⟩ (c7)).setCell ⟨gv, 8, none⟩ (c8))) ?hg ?ho ?hn ?hr ?_; (case ho => rfl); (case hg => rfl); (case hn => rfl); (case hr => exact store_runU rfl rfl rfl (run_store_run (P := Try.prog) (w := w5) (g := gv) (o := 0) (e := 65) 65 (.agg #[.int .i64 x, c1, c2, c3, c4, c5, c6, c7, c8]) [.int .i64 x, c1, c2, c3, c4, c5, c6, c7, c8] BV.out rfl (by kernel_rfl) (Nat.le_refl 9) (by intro q hq; rcases List.mem_cons.1 hq with rfl | hq; rfl; exact h1t q hq))); intro w6 hw; have n0_ : Aside0 (w6.heap[gv]? = some (.cells #[.int .i64 x, c1, c2, c3, c4, c5, c6, c7, c8] 65 (0, 0))) := ⟨by rw [hw]; refine blk_put (cs := #[.int .i64 x, c1, c2, c3, c4, c5, c6, c7, .int .i64 0]) ?_ 8 _ rfl; refine blk_put (cs := #[.int .i64 x, c1, c2, c3, c4, c5, c6, .slice none 0 0, .int .i64 0]) ?_ 7 _ rfl; refine blk_put (cs := #[.int .i64 x, c1, c2, c3, c4, c5, .int .i64 0, .slice none 0 0, .int .i64 0]) ?_ 6 _ rfl; refine blk_put (cs := #[.int .i64 x, c1, c2, c3, c4, .int .i64 0, .int .i64 0, .slice none 0 0, .int .i64 0]) ?_ 5 _ rfl; refine blk_put (cs := #[.int .i64 x, c1, c2, c3, .int .i64 0, .int .i64 0, .int .i64 0, .slice none 0 0, .int .i64 0]) ?_ 4 _ rfl; refine blk_put (cs := #[.int .i64 x, c1, c2, .int .i64 0, .int .i64 0, .int .i64 0, .int .i64 0, .slice none 0 0, .int .i64 0]) ?_ 3 _ rfl; refine blk_put (cs := #[.int .i64 x, c1, .int .i64 0, .int .i64 0, .int .i64 0, .int .i64 0, .int .i64 0, .slice none 0 0, .int .i64 0]) ?_ 2 _ rfl; refine blk_put (cs := #[.int .i64 x, .int .i64 0, .int .i64 0, .int .i64 0, .int .i64 0, .int .i64 0, .int .i64 0, .slice none 0 0, .int .i64 0]) ?_ 1 _ rfl; refine blk_put (cs := #[.int .i64 0, .int .i64 0, .int .i64 0, .int .i64 0, .int .i64 0, .int .i64 0, .int .i64 0, .slice none 0 0, .int .i64 0]) ?_ 0 _ rfl; exact BV.out⟩; have n1_ : Aside0 (Kd.R kU 65 w6 w0.heap.size (fun _ => True) (.slice (some ⟨g, 0, none⟩) us.length cap) X) := ⟨by rw [hw]; exact Kd.R_mono (Kd.R_far (p := ⟨gv, 8, none⟩) (Kd.R_far (p := ⟨gv, 7, none⟩) (Kd.R_far (p := ⟨gv, 6, none⟩) (Kd.R_far (p := ⟨gv, 5, none⟩) (Kd.R_far (p := ⟨gv, 4, none⟩) (Kd.R_far (p := ⟨gv, 3, none⟩) (Kd.R_far (p := ⟨gv, 2, none⟩) (Kd.R_far (p := ⟨gv, 1, none⟩) (Kd.R_far (p := ⟨gv, 0, none⟩) HO.out (fun _ hk => hk) (.int .i64 x)) (fun _ hk => hk) (c1)) (fun _ hk => hk) (c2)) (fun _ hk => hk) (c3)) (fun _ hk => hk) (c4)) (fun _ hk => hk) (c5)) (fun _ hk => hk) (c6)) (fun _ hk => hk) (c7)) (fun _ hk => hk) (c8)) (fun _ _ => trivial)⟩; have n2_ : Aside0 (w6.heap[B]? = some (.cells #[.int .i64 a1] 3 (0, 0))) := ⟨by rw [hw]; refine blk_far ?_ NB.out _; refine blk_far ?_ NB.out _; refine blk_far ?_ NB.out _; refine blk_far ?_ NB.out _; refine blk_far ?_ NB.out _; refine blk_far ?_ NB.out _; refine blk_far ?_ NB.out _; refine blk_far ?_ NB.out _; refine blk_far ?_ NB.out _; exact BK.out⟩; have n3_ : Aside0 (Below w0.heap.size w0 w6) := ⟨by rw [hw]; exact (below_set (below_set (below_set (below_set (below_set (below_set (below_set (below_set (below_set HB.out GV.out) GV.out) GV.out) GV.out) GV.out) GV.out) GV.out) GV.out) GV.out)⟩; clear hcz0 hfz0 hcz1 hfz1 hcz2 hfz2 hcz3 hfz3 hcz4 hfz4 hcz5 hfz5 hcz6 hfz6 hcz7 hfz7 hcz8 hfz8; clear BV HO BK HB hw; have BV := n0_; have HO := n1_; have BK := n2_; have HB := n3_; clear n0_ n1_ n2_ n3_; have hcv0 : w6.cell? ⟨gv, 0, none⟩ = some (.int .i64 x) := (blk_cell BV.out 0).trans rfl; have hfv0 := blk_frozen BV.out 0; have hcv1 : w6.cell? ⟨gv, 1, none⟩ = some (c1) := (blk_cell BV.out 1).trans rfl; have hfv1 := blk_frozen BV.out 1; have hcv2 : w6.cell? ⟨gv, 2, none⟩ = some (c2) := (blk_cell BV.out 2).trans rfl; have hfv2 := blk_frozen BV.out 2; have hcv3 : w6.cell? ⟨gv, 3, none⟩ = some (c3) := (blk_cell BV.out 3).trans rfl; have hfv3 := blk_frozen BV.out 3; have hcv4 : w6.cell? ⟨gv, 4, none⟩ = some (c4) := (blk_cell BV.out 4).trans rfl; have hfv4 := blk_frozen BV.out 4; have hcv5 : w6.cell? ⟨gv, 5, none⟩ = some (c5) := (blk_cell BV.out 5).trans rfl; have hfv5 := blk_frozen BV.out 5; have hcv6 : w6.cell? ⟨gv, 6, none⟩ = some (c6) := (blk_cell BV.out 6).trans rfl; have hfv6 := blk_frozen BV.out 6; have hcv7 : w6.cell? ⟨gv, 7, none⟩ = some (c7) := (blk_cell BV.out 7).trans rfl; have hfv7 := blk_frozen BV.out 7; have hcv8 : w6.cell? ⟨gv, 8, none⟩ = some (c8) := (blk_cell BV.out 8).trans rfl; have hfv8 := blk_frozen BV.out 8) | (go_at_call 24; refine (impl_AudWho.pred_ne a1 x B _ c1 c2 c3 c4 c5 c6 c7 c8 CX.out ((blk_cell (t := 3) (cs := #[.int .i64 a1]) (by (with_reducible repeat (first | refine blk_drewN ?_ _ | refine blk_drew ?_ | refine blk_alloc ?_ _)); exact BK.out) 0).trans rfl)).mono ?_; rintro e w7 ⟨rfl, hb⟩; have n0_ := Aside0.mk (blk_below (g := gv) (o := .cells #[.int .i64 x, c1, c2, c3, c4, c5, c6, c7, c8] 65 (0, 0)) (by (with_reducible repeat (first | refine blk_drewN ?_ _ | refine blk_drew ?_ | refine blk_alloc ?_ _)); exact BV.out) hb); have n1_ := Aside0.mk (Kd.R_below (by (with_reducible repeat (first | apply Kd.R_alloc | apply Kd.R_drewN | apply Kd.R_drew)); exact HO.out) hb); have n2_ := Aside0.mk (blk_below (g := B) (o := .cells #[.int .i64 a1] 3 (0, 0)) (by (with_reducible repeat (first | refine blk_drewN ?_ _ | refine blk_drew ?_ | refine blk_alloc ?_ _)); exact BK.out) hb); have n3_ := Aside0.mk (below_then (by repeat (first | (with_reducible first | exact HB.out | apply below_alloc | apply pw_below_drewN | apply below_drew1) | exact HB.out)) (below_sizeK HB.out) hb); clear hcv0 hfv0 hcv1 hfv1 hcv2 hfv2 hcv3 hfv3 hcv4 hfv4 hcv5 hfv5 hcv6 hfv6 hcv7 hfv7 hcv8 hfv8; clear BV HO BK HB hb; have BV := n0_; have HO := n1_; have BK := n2_; have HB := n3_; clear n0_ n1_ n2_ n3_; have hcu0 : w7.cell? ⟨gv, 0, none⟩ = some (.int .i64 x) := (blk_cell BV.out 0).trans rfl; have hfu0 := blk_frozen BV.out 0; have hcu1 : w7.cell? ⟨gv, 1, none⟩ = some (c1) := (blk_cell BV.out 1).trans rfl; have hfu1 := blk_frozen BV.out 1; have hcu2 : w7.cell? ⟨gv, 2, none⟩ = some (c2) := (blk_cell BV.out 2).trans rfl; have hfu2 := blk_frozen BV.out 2; have hcu3 : w7.cell? ⟨gv, 3, none⟩ = some (c3) := (blk_cell BV.out 3).trans rfl; have hfu3 := blk_frozen BV.out 3; have hcu4 : w7.cell? ⟨gv, 4, none⟩ = some (c4) := (blk_cell BV.out 4).trans rfl; have hfu4 := blk_frozen BV.out 4; have hcu5 : w7.cell? ⟨gv, 5, none⟩ = some (c5) := (blk_cell BV.out 5).trans rfl; have hfu5 := blk_frozen BV.out 5; have hcu6 : w7.cell? ⟨gv, 6, none⟩ = some (c6) := (blk_cell BV.out 6).trans rfl; have hfu6 := blk_frozen BV.out 6; have hcu7 : w7.cell? ⟨gv, 7, none⟩ = some (c7) := (blk_cell BV.out 7).trans rfl; have hfu7 := blk_frozen BV.out 7; have hcu8 : w7.cell? ⟨gv, 8, none⟩ = some (c8) := (blk_cell BV.out 8).trans rfl; have hfu8 := blk_frozen BV.out 8))
          go_roundg d
          case measure => omega
          case rel => exact ⟨i, j + 1, X, d, rfl, rfl, ⟨by omega⟩, ⟨by have ht_ := T.out; rw [show cu us a1 (d + 1) j = (if rd us j = a1 then 1 else 0) + cu us a1 d (j + 1) from rfl, hx, if_neg CX.out] at ht_; omega⟩, ⟨fun m hm => E.out m (by omega)⟩, ⟨by (with_reducible repeat (first | apply Kd.R_alloc | apply Kd.R_drewN | apply Kd.R_drew)); exact HO.out⟩, ⟨by (with_reducible repeat (first | refine blk_drewN ?_ _ | refine blk_drew ?_ | refine blk_alloc ?_ _)); exact BK.out⟩, ⟨(by repeat (first | (with_reducible first | exact HB.out | apply below_alloc | apply pw_below_drewN | apply below_drew1) | exact HB.out))⟩⟩
theorem impl_AudWho.run (us : List Int) (a1 : Int) (hn : us.length ≤ 9223372036854775807) (d : Nat) : ∀ i : Int, 0 ≤ i → (us.length : Int) - i = d → ∃ r, impl_AudWho.l0 (d + 1) us a1 i = some r ∧ ((r = -1 ∧ cu us a1 d i = d) ∨ (i ≤ r ∧ r < us.length ∧ cu us a1 d i = r - i + cu us a1 (us.length - (r.toNat + 1)) (r + 1))) := by
  induction d with
  | zero =>
    intro i h0 hd
    refine ⟨-1, ?_, Or.inl ⟨rfl, rfl⟩⟩
    rw [impl_AudWho.l0, if_neg (by omega)]
  | succ d ih =>
    intro i h0 hd
    rw [impl_AudWho.l0, if_pos (by omega), if_pos h0]
    have ec : cu us a1 (d + 1) i = (if rd us i = a1 then 1 else 0) + cu us a1 d (i + 1) := rfl
    by_cases h : rd us i = a1
    · obtain ⟨r, e, c⟩ := ih (i + 1) (by omega) (by omega)
      rw [if_pos h, show wrap64 (i + 1) = i + 1 by unfold wrap64; omega]
      refine ⟨r, e, ?_⟩
      rw [ec, if_pos h]
      rcases c with ⟨a, b⟩ | ⟨a, b, c⟩
      · exact Or.inl ⟨a, by omega⟩
      · exact Or.inr ⟨by omega, b, by omega⟩
    · rw [if_neg h]
      refine ⟨i, rfl, Or.inr ⟨Int.le_refl _, by omega, ?_⟩⟩
      rw [ec, if_neg h, show us.length - (i.toNat + 1) = d by omega]
      omega
theorem impl_AudWho.del0 (A : Option Addr) (c B : Nat) (a1 : Int) (W : World) (hBK : W.heap[B]? = some (.cells #[.int .i64 a1] 3 (0, 0))) :
    Calls Try.prog 25 #[.slice A 0 c, .func (.func 24) #[] #[.pointer (some ⟨B, 0, none⟩)]] W fun e w' => e = .returned (.slice A 0 c) ∧ Below W.heap.size W w' := by
  have BK := Aside0.mk hBK
  clear hBK
  have hi : impl_AudWho.l0 1 ([] : List Int) a1 0 = some (-1) := rfl
  go_enter Try.func25, Try.ntmps25
  go_wp2_with (go_at_call 36; refine (impl_AudWho.idx 1 A c ([] : List Int) a1 B (-1) _ ⟨rfl, by simp, fun h => absurd h (Nat.lt_irrefl 0)⟩ ((blk_cell BK.out 0).trans rfl) hi).mono ?_; rintro e w2 ⟨rfl, hb⟩)
  go_ret
  exact ⟨rfl, hb⟩
set_option maxHeartbeats 8000000 in
set_option maxRecDepth 100000 in
theorem impl_AudWho.clone (A0 : Option Addr) (c0 : Nat) (l0 : List Int) (w : World) (hr0 : Kd.C kU w A0 l0.length l0) (c10 : l0.length < 1599289640401) :
    Calls Try.prog 26 #[.slice A0 l0.length c0] w fun e w' => ∃ v0_ : Value, e = .returned (v0_) ∧ Kd.R kU 65 w' w.heap.size (fun _ => True) v0_ l0 ∧ Below w.heap.size w w' := by
  have HR0 := Aside0.mk hr0
  clear hr0
  have HB := Aside0.mk (Below.refl w.heap.size w)
  have LMc10 := Aside0.mk c10
  clear c10
  cases A0 with
  | none =>
    have e0 : l0 = [] := by
      cases l0 with
      | nil => rfl
      | cons a t =>
        obtain ⟨ad, _, _, _, _, _, _, _, _, e, _⟩ := at_U HR0.out 0 (by omega) (by simp only [List.length_cons]; omega)
        cases e
    subst e0
    clear HR0 LMc10
    have k0 : ∀ (w : World), (binOp BinOp.eql 32 (.slice none 0 c0) (.slice none 0 0)).run Try.prog w = .ok (.bool true) w := fun w => by kernel_rfl
    go_enter Try.func26, Try.ntmps26
    go_wp2
    go_ret
    exact ⟨_, rfl, Kd.R_nil _ _ _ _ _, by repeat (first | (with_reducible first | exact HB.out | apply below_alloc | apply pw_below_drewN | apply below_drew1) | exact HB.out)⟩
  | some ad =>
    have k0 : ∀ (w : World), (binOp BinOp.eql 32 (.slice (some ad) l0.length c0) (.slice none 0 0)).run Try.prog w = .ok (.bool false) w := fun w => by kernel_rfl
    go_enter Try.func26, Try.ntmps26
    go_wp2_with (first | ((with_reducible refine gate_dst (N := 5) rfl ?_); refine Kd.R_lit kU _ 65 ?hg (N := 5) ?hd (xs := ([] : List Int)) (inner := []) (ok := fun _ => True) (okp := fun _ => True) ?hr ?hp (fun _ hk => hk) trivial (Below.refl _ _) (Nat.le_refl _) (by simp) ?_; (case hd => rfl); (case hg => rfl); (case hr => first | (go_simp; done) | (go_simp; rfl)); (case hp => exact (Reps.none _ _)); intro v104 w11 ho12 hb hg_ hnew_; clear hg_ hnew_; have n0_ := Aside0.mk (Kd.R_lower ho12 (below_size (by repeat (first | (with_reducible first | exact HB.out | apply below_alloc | apply pw_below_drewN | apply below_drew1) | exact HB.out)))); have n2_ := Aside0.mk (below_step (by repeat (first | (with_reducible first | exact HB.out | apply below_alloc | apply pw_below_drewN | apply below_drew1) | exact HB.out)) hb); clear HB; have HO105 := n0_; have HB := n2_; clear n0_ n2_; clear hb ho12) | ((with_reducible refine gate_builtin (b := .append) (xs := #[.tmp 5, .tmp 6]) rfl ?_); at_builtin; refine Kd.R_append_rows kU (Rr := kU.K w) (w0 := w) w.heap.size rfl (.tmp 5) (.tmp 6) 32 65 (.agg #[.int .i64 0, .int .i64 0, .int .i64 0, .int .i64 0, .int .i64 0, .int .i64 0, .int .i64 0, .slice none 0 0, .int .i64 0]) 88 rfl Try.underlying32 (by kernel_rfl) rfl (by decide) (by omega) v104 ([] : List Int) l0 _ _ _ (fun _ => True) (fun _ => False) rfl rfl ?aO ?aR (fun _ _ h => h) (fun _ h => h.elim) ?aF ?aB ?aS ?aL ?_; (case aR => repeat (first | exact (Kd.C_below HR0.out HB.out) | (with_reducible refine Kd.C_alloc ?_ _) | (with_reducible refine Kd.C_drewN ?_ _) | (with_reducible refine Kd.C_drew ?_))); (case aB => exact (by repeat (first | (with_reducible first | exact HB.out | apply below_alloc | apply pw_below_drewN | apply below_drew1) | exact HB.out))); (case aF => exact (fun _ _ => trivial)); (case aO => exact (by (with_reducible repeat (first | apply Kd.R_alloc | apply Kd.R_drewN | apply Kd.R_drew)); exact HO105.out)); (case aS => exact (below_size (by repeat (first | (with_reducible first | exact HB.out | apply below_alloc | apply pw_below_drewN | apply below_drew1) | exact HB.out)))); (case aL => have := LMc10.out; (try rw [List.length_nil]); omega); intro v107 w13 ho hb hg hat; rw [List.nil_append] at ho; have n1_ := Aside0.mk (hb); have n2_ := Aside0.mk (ho); clear HB; clear HO105; have HB := n1_; have HO108 := n2_; clear n1_ n2_; clear ho hb hg hat))
    go_ret
    exact ⟨_, rfl, by (with_reducible repeat (first | apply Kd.R_alloc | apply Kd.R_drewN | apply Kd.R_drew)); exact Kd.R_mono HO108.out (fun _ hk => trivial), by repeat (first | (with_reducible first | exact HB.out | apply below_alloc | apply pw_below_drewN | apply below_drew1) | exact HB.out)⟩
theorem impl_AudWho.delA (B : Nat) (us : List Int) (a1 : Int) (v : Value) (w0 w : World) (hn : us.length ≤ 9223372036854775807) (hB0 : Below w0.heap.size w0 w) (hR : Kd.R kU 65 w w0.heap.size (fun _ => True) v us) (hBK : w.heap[B]? = some (.cells #[.int .i64 a1] 3 (0, 0))) :
    Calls Try.prog 25 #[v, .func (.func 24) #[] #[.pointer (some ⟨B, 0, none⟩)]] w fun e w' => ∃ A m c, e = .returned (.slice A m c) ∧ (m : Int) = cu us a1 us.length 0 ∧ Below w0.heap.size w0 w' := by
  obtain ⟨q, hq, hc⟩ := impl_AudWho.run us a1 hn us.length 0 (by omega) (by omega)
  have hne := Kd.R_ne hR hBK (by decide)
  obtain ⟨A, c, rfl⟩ := Kd.R_slice hR
  cases A with
  | none =>
    have e0 : us = [] := by
      obtain ⟨_, _, hCr⟩ := Kd.R_reads' hR
      cases us with
      | nil => rfl
      | cons a t =>
        obtain ⟨ad, _, _, _, _, _, _, _, _, e, _⟩ := at_U hCr 0 (by omega) (by simp only [List.length_cons]; omega)
        cases e
    subst e0
    refine (impl_AudWho.del0 none c B a1 w hBK).mono ?_
    rintro e w' ⟨rfl, hb⟩
    exact ⟨_, _, _, rfl, rfl, below_step hB0 hb⟩
  | some ad =>
    obtain ⟨g, rfl⟩ := Kd.R_head hR
    have hBg : B ≠ g := fun e_ => hne (by rw [e_]; simp [Value.ownBlock])
    refine (impl_AudWho.del g c B us a1 w0 w hB0 hR hBK hBg q hq (by omega)).mono ?_
    rintro e w' ⟨A, m, c', rfl, m1, m2, hb⟩
    refine ⟨A, m, c', rfl, ?_, hb⟩
    rcases hc with ⟨a, b⟩ | ⟨a, b, c⟩
    · rw [m1 a, b]
    · rw [m2 a, c]; omega
def impl_AudWho.f (l0 : List (S65)) (a1 : Int) : Option (Int) := if l0.length < 1599289640401 then some (cu (users l0) a1 l0.length 0) else none
set_option maxHeartbeats 8000000 in
set_option maxRecDepth 100000 in
theorem impl_AudWho.calls (A0 : Option Addr) (c0 : Nat) (l0 : List (S65)) (a1 : Int) (r : Int) (w : World) (hr0 : Kd.C k65 w A0 l0.length l0) (hc0 : l0.length ≤ c0) (h : impl_AudWho.f l0 a1 = some r) :
    Calls Try.prog 11 #[.slice A0 l0.length c0, .int .i64 a1] w fun e w' => e = .returned (.int .i64 r) ∧ Below w.heap.size w w' := by
  have hU := users_reads hr0
  have hn : (users l0).length ≤ 9223372036854775807 := hU.2.1
  have hl : l0.length = (users l0).length := by unfold users; rw [List.length_map]
  clear hr0 hc0
  unfold impl_AudWho.f at h
  rw [hl] at h ⊢
  generalize users l0 = us at *
  clear hl
  by_cases c10 : us.length < 1599289640401
  · rw [if_pos c10] at h
    obtain rfl := Option.some.inj h
    have HU := Aside0.mk hU
    have HB := Aside0.mk (Below.refl w.heap.size w)
    have LM := Aside0.mk c10
    have HN := Aside0.mk hn
    clear hU hn h c10
    go_enter Try.func11, Try.ntmps11
    go_wp2_with (first | ((with_reducible refine gate_dst (N := 3) rfl ?_); refine box_event ?hg (N := 3) ?hd (cs := #[.int .i64 a1]) (t := 3) ?hr ?_; (case hd => rfl); (case hg => rfl); (case hr => first | (go_simp; done) | (go_simp; rfl)); intro gb hg w3 hbox hb; have n0_ := Aside0.mk (below_step (by repeat (first | (with_reducible first | exact HB.out | apply below_alloc | apply pw_below_drewN | apply below_drew1) | exact HB.out)) hb); have n1_ := Aside0.mk hbox; clear HB; have HB := n0_; have BK := n1_; clear n0_ n1_; clear hb hbox hg) | (go_at_call 26; refine (impl_AudWho.clone A0 c0 us _ (Kd.C_below HU.out (by repeat (first | (with_reducible first | exact HB.out | apply below_alloc | apply pw_below_drewN | apply below_drew1) | exact HB.out))) LM.out).mono ?_; rintro e w4 ⟨v, rfl, ho, hb⟩; have n0_ := Aside0.mk (Kd.R_lower ho (below_sizeK HB.out)); have n1_ := Aside0.mk (blk_below (g := gb) (o := .cells #[.int .i64 a1] 3 (0, 0)) (by (with_reducible repeat (first | refine blk_drewN ?_ _ | refine blk_drew ?_ | refine blk_alloc ?_ _)); exact BK.out) hb); have n2_ := Aside0.mk (below_step (by repeat (first | (with_reducible first | exact HB.out | apply below_alloc | apply pw_below_drewN | apply below_drew1) | exact HB.out)) hb); clear BK HB; have HO := n0_; have BK := n1_; have HB := n2_; clear n0_ n1_ n2_; clear ho hb) | (go_at_call 25; refine (impl_AudWho.delA gb us a1 v w _ HN.out (by repeat (first | (with_reducible first | exact HB.out | apply below_alloc | apply pw_below_drewN | apply below_drew1) | exact HB.out)) (by (with_reducible repeat (first | apply Kd.R_alloc | apply Kd.R_drewN | apply Kd.R_drew)); exact HO.out) (by (with_reducible repeat (first | refine blk_drewN ?_ _ | refine blk_drew ?_ | refine blk_alloc ?_ _)); exact BK.out)).mono ?_; rintro e w5 ⟨A5, m5, c5, rfl, em, hb⟩; have EM := Aside0.mk em; have n0_ := Aside0.mk hb; clear HB em hb; have HB := n0_; clear n0_))
    go_ret
    exact ⟨by first | (rw [← EM.out]; rfl) | (rw [← EM.out]; simp; done) | (simp [EM.out]; done), by repeat (first | (with_reducible first | exact HB.out | apply below_alloc | apply pw_below_drewN | apply below_drew1) | exact HB.out)⟩
  · rw [if_neg c10] at h
    exact absurd h (by simp)

/-! ### spec_AudWho: function 12 -/
def spec_AudWho.l0 : Nat → List (S65) → Int → Int → Int → Option (Int)
  | 0, _, _, _, _ => none
  | k + 1, x0, x1, x5, x6 => if x6 < (x0.length : Int) then (if 0 ≤ x6 then (if ((rd_T65 x0 x6).f0.f0) = x1 then (spec_AudWho.l0 k x0 x1 (wrap64 (x5 + 1)) (wrap64 (x6 + 1))) else (spec_AudWho.l0 k x0 x1 x5 (wrap64 (x6 + 1)))) else (none)) else (some x5)
def spec_AudWho.f (k : Nat) (l0 : List (S65)) (a1 : Int) : Option (Int) := spec_AudWho.l0 k l0 a1 0 0
theorem spec_AudWho.mono_l : ∀ k, (∀ y0 y1 y2 y3, LeO (spec_AudWho.l0 k y0 y1 y2 y3) (spec_AudWho.l0 (k + 1) y0 y1 y2 y3))
  | 0 => fun _ _ _ _ r h => by simp [spec_AudWho.l0] at h
  | k + 1 => by
    have ih0 := spec_AudWho.mono_l k
    · intro y0 y1 y2 y3
      unfold spec_AudWho.l0
      repeat' first
      | (with_reducible exact ih0 _ _ _ _)
      | (with_reducible exact LeO.refl _)
      | (with_reducible exact LeO.none _)
      | (with_reducible refine LeO.ite ?_ ?_)
      | (with_reducible refine LeO.bind ?_ (fun _ => ?_))
      | exact ih0 _ _ _ _
      | exact LeO.none _
      | refine LeO.ite ?_ ?_
      | refine LeO.bind ?_ (fun _ => ?_)
theorem spec_AudWho.mono : ∀ a0 a1 k, LeO (spec_AudWho.f k a0 a1) (spec_AudWho.f (k + 1) a0 a1) := by
  intro a0 a1 k
  have ih0 := spec_AudWho.mono_l k
  unfold spec_AudWho.f
  repeat' first
      | (with_reducible exact ih0 _ _ _ _)
      | (with_reducible exact LeO.refl _)
      | (with_reducible exact LeO.none _)
      | (with_reducible refine LeO.ite ?_ ?_)
      | (with_reducible refine LeO.bind ?_ (fun _ => ?_))
      | exact ih0 _ _ _ _
      | exact LeO.none _
      | refine LeO.ite ?_ ?_
      | refine LeO.bind ?_ (fun _ => ?_)
set_option maxHeartbeats 8000000 in
set_option maxRecDepth 100000 in
theorem spec_AudWho.calls (k : Nat) (A0 : Option Addr) (c0 : Nat) (l0 : List (S65)) (a1 : Int) (r : Int) (w : World) (hr0 : Kd.C k65 w A0 l0.length l0) (hc0 : l0.length ≤ c0) (h : spec_AudWho.f k l0 a1 = some r) :
    Calls Try.prog 12 #[.slice A0 l0.length c0, .int .i64 a1] w fun e w' => e = .returned (.int .i64 r) ∧ Drawn0 w w' := by
  have HR0 := Aside0.mk hr0
  have HC0 := Aside0.mk hc0
  clear hr0 hc0
  have H : (spec_AudWho.l0 k l0 a1 0 0) = some r := h
  clear h
  have H' := Aside0.mk H
  clear H
  go_enter Try.func12, Try.ntmps12
  go_wp2
  go_loopg [5, 6] k (fun kq v5 v6 w' => ∃ (x5_1 : Int) (x6_1 : Int), v5 = .int .i64 x5_1 ∧ v6 = .int .i64 x6_1 ∧ Aside0 (spec_AudWho.l0 kq l0 a1 x5_1 x6_1 = some r) ∧ Aside0 (kq ≤ k) ∧ Drawn0 w w')
  case atStart => exact ⟨(0), (0), (by first | rfl | (simp; done) | (simp [*]; done)), (by first | rfl | (simp; done) | (simp [*]; done)), H', ⟨Nat.le_refl _⟩, by repeat (first | exact Drawn0.refl _ | apply Drawn0.step)⟩
  case round =>
    clear H'
    try clear c1
    try clear p2
    obtain ⟨x5_1, x6_1, rfl, rfl, HA, HK1, ⟨m1, rfl⟩⟩ := hrel
    cases gk with
    | zero => exact absurd HA.out (by simp [spec_AudWho.l0])
    | succ k1 =>
      have H := HA.out
      clear HA
      simp only [spec_AudWho.l0] at H
      by_cases c3 : x6_1 < (l0.length : Int)
      · rw [if_pos c3] at H
        have c3b0 : decide (x6_1 < (l0.length : Int)) = true := decide_eq_true c3
        clear c3
        by_cases c4 : 0 ≤ x6_1
        · rw [if_pos c4] at H
          have c4b0 : decide (0 ≤ x6_1) = true := decide_eq_true c4
          clear c4
          by_cases c5 : ((rd_T65 l0 x6_1).f0.f0) = a1
          · rw [if_pos c5] at H
            have c5b0 : (((rd_T65 l0 x6_1).f0.f0) == a1) = true := beq_iff_eq.mpr c5
            have c5b1 : (((rd_T65 l0 x6_1).f0.f0) != a1) = false := bne_eq_false_iff_eq.mpr c5
            clear c5
            have H' := Aside0.mk H
            clear H
            have p1302 : 0 ≤ (x6_1 : Int) := of_decide_eq_true (by first | (with_reducible assumption) | assumption)
            have q1302 : x6_1 < (l0.length : Int) := of_decide_eq_true (by first | (with_reducible assumption) | assumption)
            obtain ⟨ad1302, A1302_7, c1302_7, e1302, hx1302_0, hx1302_1, hx1302_2, hx1302_3, hx1302_4, hx1302_5, hx1302_6, hx1302_7, hx1302_8, hl1302_7, hi1302_7⟩ := at_T65 HR0.out x6_1 p1302 q1302
            cases e1302
            have HR1302_7 := Aside0.mk hi1302_7
            have HC1302_7 := Aside0.mk hl1302_7
            clear hi1302_7 hl1302_7
            replace p1302 := eq_true p1302
            replace q1302 := eq_true q1302
            go_wp2
            go_roundg k1
            case measure => have := HK1.out; omega
            case rel => exact ⟨(wrap64 (x5_1 + 1)), (wrap64 (x6_1 + 1)), (by first | rfl | (simp; done) | (simp [*]; done)), (by first | rfl | (simp; done) | (simp [*]; done)), H', ⟨by have := HK1.out; omega⟩, by repeat (first | exact Drawn0.refl _ | apply Drawn0.step)⟩
          · rw [if_neg c5] at H
            have c5b0 : (((rd_T65 l0 x6_1).f0.f0) == a1) = false := beq_eq_false_iff_ne.mpr c5
            have c5b1 : (((rd_T65 l0 x6_1).f0.f0) != a1) = true := bne_iff_ne.mpr c5
            have H' := Aside0.mk H
            clear H
            have p1302 : 0 ≤ (x6_1 : Int) := of_decide_eq_true (by first | (with_reducible assumption) | assumption)
            have q1302 : x6_1 < (l0.length : Int) := of_decide_eq_true (by first | (with_reducible assumption) | assumption)
            obtain ⟨ad1302, A1302_7, c1302_7, e1302, hx1302_0, hx1302_1, hx1302_2, hx1302_3, hx1302_4, hx1302_5, hx1302_6, hx1302_7, hx1302_8, hl1302_7, hi1302_7⟩ := at_T65 HR0.out x6_1 p1302 q1302
            cases e1302
            have HR1302_7 := Aside0.mk hi1302_7
            have HC1302_7 := Aside0.mk hl1302_7
            clear hi1302_7 hl1302_7
            replace p1302 := eq_true p1302
            replace q1302 := eq_true q1302
            go_wp2
            go_roundg k1
            case measure => have := HK1.out; omega
            case rel => exact ⟨(x5_1), (wrap64 (x6_1 + 1)), (by first | rfl | (simp; done) | (simp [*]; done)), (by first | rfl | (simp; done) | (simp [*]; done)), H', ⟨by have := HK1.out; omega⟩, by repeat (first | exact Drawn0.refl _ | apply Drawn0.step)⟩
        · rw [if_neg c4] at H
          exact absurd H (by simp)
      · rw [if_neg c3] at H
        have c3b0 : decide (x6_1 < (l0.length : Int)) = false := decide_eq_false c3
        clear c3
        obtain rfl := Option.some.inj H
        go_wp2
        go_ret
        exact ⟨by first | rfl | (simp; done) | (simp [*]; done), by repeat (first | exact Drawn0.refl _ | apply Drawn0.step)⟩

end Go.Proofs.Ytipfdcmjcelbiaa.All
