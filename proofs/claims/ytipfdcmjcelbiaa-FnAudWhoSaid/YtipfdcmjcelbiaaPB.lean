/- The draws' contracts, what they give, read as lists, and a law's body run by the typed machine; no conditions but that the code is readable. -/
import Derived.Test.YtipfdcmjcelbiaaFC
import Derived.Test.YtipfdcmjcelbiaaPA
import Derived.Test.YtipfdcmjcelbiaaAllx8
section
/-! ## F10: Contracts of the three draws by the typed machine; no conditions but the contracts of the functions called. -/
set_option linter.unusedVariables false
set_option linter.unusedSimpArgs false
set_option maxRecDepth 8000
set_option maxHeartbeats 4000000
namespace Go.Proofs.Ytipfdcmjcelbiaa.Safe
open Go Go.RowKit
attribute [local go_sem] R_skip R_seq R_ops R_cond R_blk R_exit R_ret K_nil K_sqn K_sqe K_sqr K_bkn K_bke K_bkr K_lpn K_lpe K_lpr Ro_nil O_mv O_pick O_new O_box O_build O_bsl L_ld L_p L_r L_o inI allI tabL O_tab or_false O_st O_fa O_ia L_bin B_lss B_leq B_gtr B_geq B_eql B_neq B_add B_sub B_mul B_quo B_rem B_sadd B_seql B_sneq B_aeql B_aneq B_beql B_bneq Br_t Br_f Br_d decide_true decide_false beq_self_eq_true Bool.true_beq Bool.false_beq O_un O_cvt O_ext O_fld O_slc O_lenf O_lent L_app O_idx Ro_gd G_tt G_ff G_tf G_ft G_u C_t C_f S_eq S_em S_byte S_bad Gk vD vS vA vT vB vQ vL vH vC stD unD S_slc bnd fillA P_s P_n B_t E_t E_c U_at U_am over_cons over_nil allC cellsA cfm lay esz ints scls mk_t mk_f okRs okR finR rv finS p1 pasl pas List.map List.length List.drop List.take List.getD_cons_zero List.getD_cons_succ List.getD_nil List.getElem?_cons_zero List.getElem?_cons_succ List.not_mem_nil List.mem_cons List.nil_append List.cons_append decide_eq_true_eq decide_eq_false_iff_not Bool.not_eq_true' Bool.not_eq_false' Bool.not_true Bool.not_false Bool.not_eq_true Bool.not_eq_false true_and and_true false_and and_false not_false_eq_true not_true_eq_false Bool.true_and Bool.and_true true_or or_true forall_const true_imp_iff false_imp_iff Bool.forall_bool Prod.forall cond_true cond_false eq_self Nat.zero_add Nat.add_zero LIM
def p6 : ACode := (.seq (.ops [⟨(some 2), none, (.new [(.int 0), (.int 0), (.sl 52 0), (.int 0), (.sl 41 0), (.sl 4 0)])⟩]) (.seq (.ops [⟨(some 3), none, (.mv (.t 0))⟩, ⟨(some 4), none, (.call 18 [(.t 3)])⟩, ⟨(some 5), none, (.call 17 [(.t 4), (.c (.int 8))])⟩, ⟨none, none, (.st 6 (.t 2) (.t 5))⟩]) .ret))
def p14 : ACode := (.seq (.ops [⟨(some 2), none, (.new [(.int 0), (.int 0), (.sl 52 0), (.int 0), (.sl 41 0), (.sl 4 0)])⟩, ⟨(some 3), none, (.mv (.c (.int 0)))⟩, ⟨(some 4), none, (.mv (.c (.int 0)))⟩]) (.seq (.ops [⟨(some 6), none, (.mv (.t 0))⟩, ⟨(some 7), none, (.call 18 [(.t 6)])⟩, ⟨(some 5), none, (.mv (.t 7))⟩]) (.seq (.ops [⟨(some 8), none, (.mv (.t 5))⟩, ⟨(some 9), none, (.call 17 [(.t 8), (.c (.int 12))])⟩, ⟨(some 10), none, (.mv (.t 5))⟩, ⟨(some 11), none, (.call 23 [(.t 10), (.c (.int 2))])⟩, ⟨(some 12), none, (.bin .add 3 (.c (.int 2)) (.t 11))⟩, ⟨(some 13), none, (.mv (.t 5))⟩, ⟨(some 14), none, (.call 23 [(.t 13), (.c (.int 6))])⟩, ⟨none, none, (.st 6 (.t 2) (.t 9))⟩, ⟨(some 3), none, (.mv (.t 12))⟩, ⟨(some 4), none, (.mv (.t 14))⟩]) .ret)))
def p10 : ACode := (.seq (.ops [⟨(some 2), none, (.mv (.c (.sl 65 0)))⟩, ⟨(some 3), none, (.mv (.c (.int 0)))⟩]) (.seq (.ops [⟨(some 7), none, (.mv (.t 0))⟩, ⟨(some 8), none, (.call 18 [(.t 7)])⟩, ⟨(some 4), none, (.mv (.t 8))⟩]) (.seq (.ops [⟨(some 10), none, (.mv (.t 4))⟩, ⟨(some 11), none, (.call 22 [(.t 10), (.c (.int 12))])⟩, ⟨(some 9), none, (.mv (.t 11))⟩, ⟨(some 12), none, (.ext 0 (.t 9))⟩, ⟨(some 13), none, (.ext 1 (.t 9))⟩, ⟨(some 5), none, (.mv (.t 12))⟩, ⟨(some 6), none, (.mv (.t 13))⟩]) (.seq (.ops [⟨(some 14), none, (.mv (.t 6))⟩, ⟨(some 15), none, (.mv (.t 4))⟩, ⟨(some 16), none, (.call 23 [(.t 15), (.c (.int 7))])⟩, ⟨(some 2), none, (.mv (.t 14))⟩, ⟨(some 3), none, (.mv (.t 16))⟩]) .ret))))
abbrev sp6 (VA : Option Addr) (vn vc : Nat) : Spec := mkS (α := (Int × Int × Nat × Int × Nat × Nat) × Nat) (fun l N => match l with | [.lit v] => v = .slice VA vn vc ∧ N + 100000 ≤ 1099511627776 ∧ 16 ≤ N | _ => False) (fun l N x => match l with | [.lit v] => (N ≤ x.2 ∧ x.2 ≤ N + 100000) ∧ x.1.2.2.1 ≤ x.2 ∧ x.1.2.2.2.2.1 ≤ x.2 ∧ x.1.2.2.2.2.2 ≤ x.2 | _ => False) (fun x => vB x.1) (fun l N x => x.2) (by intro l N h; split at h <;> first | exact h.elim | (rename_i v; first | exact ⟨((0, 0, 0, 0, 0, 0), N), by (try dsimp only); omega, by (try dsimp only); omega⟩ | exact ⟨((0, 0, 0, 0, 0, 0), N), by simp, by simp⟩))
abbrev G6 (VA : Option Addr) (vn vc : Nat) : List (Nat × Spec) := [(17, sp17), (18, (Open.sp18 VA vn vc))]
theorem s6 {B : Base} (VA : Option Addr) (vn vc : Nat) (hG : Good B (G6 VA vn vc)) : Sound B 6 (sp6 VA vn vc) := by
  have h17 : (lkG (G6 VA vn vc)).f 17 = some sp17 := rfl
  have h18 : (lkG (G6 VA vn vc)).f 18 = some (Open.sp18 VA vn vc) := rfl
  refine fnS Try.f6 p6 [(.c 2 6)] hG (by kernel_rfl) (fun args w => by kernel_rfl) (by kernel_rfl) (by kernel_rfl) (fun l N h => by split at h <;> first | exact h.elim | exact Nat.le_of_ble_eq_true rfl) (fun l N h hN => ?_)
  split at h
  case h_2 => exact h.elim
  rename_i v
  simp only [p6, Go0]
  obtain ⟨rfl, h⟩ := h
  simp (maxSteps := 100000000) only [go_sem, Int.reduceBEq, reduceIte, Nat.reduceEqDiff, Nat.reduceAdd, Nat.reduceSub, Nat.reduceLeDiff, Nat.reduceLT, Int.reduceLE, Int.reduceLT, Int.reduceNeg, Int.reduceEq, reduceCtorEq, O_call h17, O_call h18, Open.sp18]
  repeat' first | (intro _) | (with_reducible apply And.intro) | omega | (dsimp only; omega) | trivial | (refine ⟨((_, _, _, _, _, _), _), ?_, rfl, rfl⟩) | (refine ⟨((_, _, _, _, _, _), _), ?_, rfl, ?_⟩) | (refine ⟨((_, _, _, _, _, _), _), ?_, rfl⟩) | (exact ⟨((_, _, _, _, _, _), _), rfl⟩) | (exact ⟨((_, _, _, _, _, _), _), rfl, rfl⟩) | (exact ⟨((_, _, _, _, _, _), _), rfl, by omega⟩) | (simp (disch := omega) only [wr]; omega) | (simp (disch := omega) only [wr] at *; omega) | (unfold wrap64; omega) | (simp only [wrap64] at *; omega) | (simp only [decide_eq_true_eq, Bool.false_eq_true, wrap64] at *; omega) | (simp_all only [forall_const, true_imp_iff]; omega)
abbrev sp14 (VA : Option Addr) (vn vc : Nat) : Spec := mkS (α := ((Int × Int × Nat × Int × Nat × Nat) × Int × Int) × Nat) (fun l N => match l with | [.lit v] => v = .slice VA vn vc ∧ N + 100002 ≤ 1099511627776 ∧ 16 ≤ N | _ => False) (fun l N x => match l with | [.lit v] => (N ≤ x.2 ∧ x.2 ≤ N + 100002) ∧ x.1.1.2.2.1 ≤ x.2 ∧ x.1.1.2.2.2.2.1 ≤ x.2 ∧ x.1.1.2.2.2.2.2 ≤ x.2 | _ => False) (fun x => .tup [vB x.1.1, .int x.1.2.1, .int x.1.2.2]) (fun l N x => x.2) (by intro l N h; split at h <;> first | exact h.elim | (rename_i v; first | exact ⟨(((0, 0, 0, 0, 0, 0), 0, 0), N), by (try dsimp only); omega, by (try dsimp only); omega⟩ | exact ⟨(((0, 0, 0, 0, 0, 0), 0, 0), N), by simp, by simp⟩))
abbrev G14 (VA : Option Addr) (vn vc : Nat) : List (Nat × Spec) := [(17, sp17), (18, (Open.sp18 VA vn vc)), (23, sp23)]
theorem s14 {B : Base} (VA : Option Addr) (vn vc : Nat) (hG : Good B (G14 VA vn vc)) : Sound B 14 (sp14 VA vn vc) := by
  have h17 : (lkG (G14 VA vn vc)).f 17 = some sp17 := rfl
  have h18 : (lkG (G14 VA vn vc)).f 18 = some (Open.sp18 VA vn vc) := rfl
  have h23 : (lkG (G14 VA vn vc)).f 23 = some sp23 := rfl
  refine fnS Try.f14 p14 [(.c 2 6), (.t 3), (.t 4)] hG (by kernel_rfl) (fun args w => by kernel_rfl) (by kernel_rfl) (by kernel_rfl) (fun l N h => by split at h <;> first | exact h.elim | exact Nat.le_of_ble_eq_true rfl) (fun l N h hN => ?_)
  split at h
  case h_2 => exact h.elim
  rename_i v
  simp only [p14, Go0]
  obtain ⟨rfl, h⟩ := h
  simp (maxSteps := 100000000) only [go_sem, Int.reduceBEq, reduceIte, Nat.reduceEqDiff, Nat.reduceAdd, Nat.reduceSub, Nat.reduceLeDiff, Nat.reduceLT, Int.reduceLE, Int.reduceLT, Int.reduceNeg, Int.reduceEq, reduceCtorEq, O_call h17, O_call h18, O_call h23, Open.sp18]
  repeat' first | (intro _) | (with_reducible apply And.intro) | omega | (dsimp only; omega) | trivial | (refine ⟨(((_, _, _, _, _, _), _, _), _), ?_, rfl, rfl⟩) | (refine ⟨(((_, _, _, _, _, _), _, _), _), ?_, rfl, ?_⟩) | (refine ⟨(((_, _, _, _, _, _), _, _), _), ?_, rfl⟩) | (exact ⟨(((_, _, _, _, _, _), _, _), _), rfl⟩) | (exact ⟨(((_, _, _, _, _, _), _, _), _), rfl, rfl⟩) | (exact ⟨(((_, _, _, _, _, _), _, _), _), rfl, by omega⟩) | (simp (disch := omega) only [wr]; omega) | (simp (disch := omega) only [wr] at *; omega) | (unfold wrap64; omega) | (simp only [wrap64] at *; omega) | (simp only [decide_eq_true_eq, Bool.false_eq_true, wrap64] at *; omega) | (simp_all only [forall_const, true_imp_iff]; omega)
abbrev sp10 (VA : Option Addr) (vn vc : Nat) : Spec := mkS (α := Nat × Int × Nat) (fun l N => match l with | [.lit v] => v = .slice VA vn vc ∧ N + 20002 ≤ 1099511627776 ∧ 16 ≤ N | _ => False) (fun l N x => match l with | [.lit v] => (N ≤ x.2.2 ∧ x.2.2 ≤ N + 20002) ∧ x.1 ≤ x.2.2 | _ => False) (fun x => .tup [.sl 65 x.1, .int x.2.1]) (fun l N x => x.2.2) (by intro l N h; split at h <;> first | exact h.elim | (rename_i v; first | exact ⟨(0, 0, N), by (try dsimp only); omega, by (try dsimp only); omega⟩ | exact ⟨(0, 0, N), by simp, by simp⟩))
abbrev G10 (VA : Option Addr) (vn vc : Nat) : List (Nat × Spec) := [(22, sp22), (18, (Open.sp18 VA vn vc)), (23, sp23)]
theorem s10 {B : Base} (VA : Option Addr) (vn vc : Nat) (hG : Good B (G10 VA vn vc)) : Sound B 10 (sp10 VA vn vc) := by
  have h22 : (lkG (G10 VA vn vc)).f 22 = some sp22 := rfl
  have h18 : (lkG (G10 VA vn vc)).f 18 = some (Open.sp18 VA vn vc) := rfl
  have h23 : (lkG (G10 VA vn vc)).f 23 = some sp23 := rfl
  refine fnS Try.f10 p10 [(.t 2), (.t 3)] hG (by kernel_rfl) (fun args w => by kernel_rfl) (by kernel_rfl) (by kernel_rfl) (fun l N h => by split at h <;> first | exact h.elim | exact Nat.le_of_ble_eq_true rfl) (fun l N h hN => ?_)
  split at h
  case h_2 => exact h.elim
  rename_i v
  simp only [p10, Go0]
  obtain ⟨rfl, h⟩ := h
  simp (maxSteps := 100000000) only [go_sem, Int.reduceBEq, reduceIte, Nat.reduceEqDiff, Nat.reduceAdd, Nat.reduceSub, Nat.reduceLeDiff, Nat.reduceLT, Int.reduceLE, Int.reduceLT, Int.reduceNeg, Int.reduceEq, reduceCtorEq, O_call h22, O_call h18, O_call h23, Open.sp18]
  repeat' first | (intro _) | (with_reducible apply And.intro) | omega | (dsimp only; omega) | trivial | (refine ⟨(_, _, _), ?_, rfl, rfl⟩) | (refine ⟨(_, _, _), ?_, rfl, ?_⟩) | (refine ⟨(_, _, _), ?_, rfl⟩) | (exact ⟨(_, _, _), rfl⟩) | (exact ⟨(_, _, _), rfl, rfl⟩) | (exact ⟨(_, _, _), rfl, by omega⟩) | (simp (disch := omega) only [wr]; omega) | (simp (disch := omega) only [wr] at *; omega) | (unfold wrap64; omega) | (simp only [wrap64] at *; omega) | (simp only [decide_eq_true_eq, Bool.false_eq_true, wrap64] at *; omega) | (simp_all only [forall_const, true_imp_iff]; omega)
end Go.Proofs.Ytipfdcmjcelbiaa.Safe
end

section
/-! ## P4: The contracts of the draws of batches from the reader's and the digits' alone; what they give, read as lists; no conditions but that the code is readable. -/
set_option linter.unusedVariables false
set_option linter.unusedSimpArgs false
namespace Go.Proofs.Ytipfdcmjcelbiaa.Safe
open Go Go.RowKit Go.Proofs.Ytipfdcmjcelbiaa.All Go.Proofs.YtipfdcmjcelbiaaW.PrintWords Go.Proofs.YtipfdcmjcelbiaaW.PrintLast Go.Proofs.YtipfdcmjcelbiaaW.PrintMore
theorem g37 {B : Base} : Sound B 37 sp37 := s37 trivial
theorem g44 {B : Base} : Sound B 44 sp44 := s44 ⟨g37, trivial⟩
theorem g45 {B : Base} (h23 : Sound B 23 sp23) : Sound B 45 sp45 := s45 ⟨h23, trivial⟩
theorem g56 {B : Base} : Sound B 56 sp56 := s56 trivial
theorem g55 {B : Base} (h23 : Sound B 23 sp23) : Sound B 55 sp55 := s55 ⟨h23, g56, trivial⟩
theorem g51 {B : Base} (h23 : Sound B 23 sp23) : Sound B 51 sp51 := s51 ⟨h23, (g55 h23), trivial⟩
theorem g31 {B : Base} (h23 : Sound B 23 sp23) : Sound B 31 sp31 := s31 ⟨h23, (g51 h23), trivial⟩
theorem g39 {B : Base} : Sound B 39 sp39 := s39 trivial
theorem g62 {B : Base} : Sound B 62 sp62 := s62 trivial
theorem g40 {B : Base} : Sound B 40 sp40 := s40 ⟨g37, g56, trivial⟩
theorem g96a {B : Base} : Sound B 96 sp96a := s96a trivial
theorem g96 {B : Base} : Sound B 96 sp96 := s96 ⟨g96a, trivial⟩
theorem g88 {B : Base} : Sound B 88 sp88 := s88 ⟨g56, g96, trivial⟩
theorem g87 {B : Base} : Sound B 87 sp87 := s87 ⟨g40, g37, g88, trivial⟩
theorem g73 {B : Base} (h23 : Sound B 23 sp23) : Sound B 73 sp73 := s73 ⟨h23, g87, trivial⟩
theorem g77 {B : Base} (h23 : Sound B 23 sp23) : Sound B 77 sp77 := s77 ⟨h23, (g73 h23), trivial⟩
theorem g20 {B : Base} : Sound B 20 sp20 := s20 trivial
theorem g8 {B : Base} : Sound B 8 sp8 := s8 ⟨g20, trivial⟩
theorem g16 {B : Base} : Sound B 16 sp16 := s16 ⟨g8, trivial⟩
theorem g78 {B : Base} : Sound B 78 sp78 := s78 ⟨g8, g16, trivial⟩
theorem g63 {B : Base} (h23 : Sound B 23 sp23) : Sound B 63 sp63 := s63 ⟨h23, (g77 h23), g78, trivial⟩
theorem g65 {B : Base} : Sound B 65 sp65 := s65 trivial
theorem g64 {B : Base} (h23 : Sound B 23 sp23) : Sound B 64 sp64 := s64 ⟨h23, g65, trivial⟩
theorem g46 {B : Base} (h23 : Sound B 23 sp23) : Sound B 46 sp46 := s46 ⟨h23, (g31 h23), g39, g62, (g63 h23), (g64 h23), trivial⟩
theorem g76 {B : Base} : Sound B 76 sp76 := s76 ⟨g40, g88, trivial⟩
theorem g57 {B : Base} : Sound B 57 sp57 := s57 ⟨g37, g40, g76, trivial⟩
theorem g41 {B : Base} : Sound B 41 sp41 := s41 ⟨g37, g57, trivial⟩
theorem g69 {B : Base} : Sound B 69 sp69 := s69 trivial
theorem g89 {B : Base} : Sound B 89 sp89 := s89 ⟨g37, g41, trivial⟩
theorem g79 {B : Base} : Sound B 79 sp79 := s79 ⟨g41, g69, g89, trivial⟩
theorem g80 {B : Base} : Sound B 80 sp80 := s80 ⟨g37, g69, g89, trivial⟩
theorem g66 {B : Base} : Sound B 66 sp66 := s66 ⟨g79, g80, trivial⟩
theorem g50 {B : Base} : Sound B 50 sp50 := s50 trivial
theorem g30 {B : Base} : Sound B 30 sp30 := s30 ⟨g37, g41, g50, trivial⟩
theorem g67 {B : Base} : Sound B 67 sp67 := s67 ⟨g30, g62, trivial⟩
theorem g71 {B : Base} : Sound B 71 sp71 := s71 trivial
theorem g52 {B : Base} : Sound B 52 sp52 := s52 ⟨g71, trivial⟩
theorem g93 {B : Base} : Sound B 93 sp93 := s93 trivial
theorem g94 {B : Base} : Sound B 94 sp94 := s94 ⟨g40, g57, g76, g88, trivial⟩
theorem g98 {B : Base} : Sound B 98 sp98 := s98 ⟨g37, g40, g56, g88, g96, trivial⟩
theorem g97 {B : Base} : Sound B 97 sp97 := s97 ⟨g88, g98, trivial⟩
theorem g95 {B : Base} : Sound B 95 sp95 := s95 ⟨g94, g97, trivial⟩
theorem g86 {B : Base} : Sound B 86 sp86 := s86 ⟨g93, g94, g95, trivial⟩
theorem g85 {B : Base} : Sound B 85 sp85 := s85 ⟨g37, g40, g57, g86, g93, g94, trivial⟩
theorem g92 {B : Base} : Sound B 92 sp92 := s92 ⟨g78, trivial⟩
theorem g90 {B : Base} : Sound B 90 sp90 := s90 ⟨g37, g85, g92, trivial⟩
theorem g72 {B : Base} : Sound B 72 sp72 := s72 ⟨g40, g71, g85, g86, trivial⟩
theorem g74 {B : Base} : Sound B 74 sp74 := s74 ⟨g37, g71, g85, g86, trivial⟩
theorem g75 {B : Base} : Sound B 75 sp75 := s75 ⟨g40, g71, g85, g86, trivial⟩
theorem g91 {B : Base} : Sound B 91 sp91 := s91 ⟨g71, g72, g74, g75, trivial⟩
theorem g81 {B : Base} : Sound B 81 sp81 := s81 ⟨g52, g90, g91, trivial⟩
theorem g82 {B : Base} : Sound B 82 sp82 := s82 ⟨g37, g52, g90, trivial⟩
theorem g83 {B : Base} : Sound B 83 sp83 := s83 ⟨g8, g37, g52, g90, trivial⟩
theorem g84 {B : Base} : Sound B 84 sp84 := s84 ⟨g52, g90, g92, trivial⟩
theorem g68 {B : Base} : Sound B 68 sp68 := s68 ⟨g81, g82, g83, g84, trivial⟩
theorem g47 {B : Base} : Sound B 47 sp47 := s47 ⟨g65, g66, g67, g68, trivial⟩
theorem g48 {B : Base} : Sound B 48 sp48 := s48 ⟨g52, g69, trivial⟩
theorem g38 {B : Base} : Sound B 38 sp38 := s38 trivial
theorem g27 {B : Base} : Sound B 27 sp27 := s27 ⟨g37, g38, g39, g40, g41, trivial⟩
theorem g42 {B : Base} : Sound B 42 sp42 := s42 ⟨g20, trivial⟩
theorem g59 {B : Base} : Sound B 59 sp59 := s59 trivial
theorem g61 {B : Base} : Sound B 61 sp61 := s61 ⟨g40, g56, Digits.s58, trivial⟩
theorem g60 {B : Base} : Sound B 60 sp60 := s60 ⟨Digits.s58, g61, trivial⟩
theorem g43 {B : Base} : Sound B 43 sp43 := s43 ⟨g27, Digits.s58, g59, g60, g61, trivial⟩
theorem g28 {B : Base} : Sound B 28 sp28 := s28 ⟨g20, g27, g37, g42, g43, trivial⟩
theorem g70 {B : Base} : Sound B 70 sp70 := s70 trivial
theorem g49 {B : Base} : Sound B 49 sp49 := s49 ⟨g27, g28, g70, trivial⟩
theorem g29 {B : Base} (h23 : Sound B 23 sp23) : Sound B 29 sp29 := s29 ⟨h23, g44, (g45 h23), (g46 h23), g47, g48, g49, trivial⟩
theorem g53 {B : Base} (h23 : Sound B 23 sp23) : Sound B 53 sp53 := s53 ⟨h23, g50, (g51 h23), (g55 h23), g72, (g73 h23), g74, g75, trivial⟩
theorem g32 {B : Base} (h23 : Sound B 23 sp23) : Sound B 32 sp32 := s32 ⟨g8, h23, g52, (g53 h23), trivial⟩
theorem g17 {B : Base} (h23 : Sound B 23 sp23) : Sound B 17 sp17 := s17 ⟨h23, (g29 h23), g30, (g31 h23), (g32 h23), trivial⟩
theorem g6 {B : Base} (VA : Option Addr) (vn vc : Nat) (h23 : Sound B 23 sp23) (h18 : Sound B 18 (Open.sp18 VA vn vc)) : Sound B 6 (sp6 VA vn vc) := s6 VA vn vc ⟨(g17 h23), h18, trivial⟩
theorem g14 {B : Base} (VA : Option Addr) (vn vc : Nat) (h23 : Sound B 23 sp23) (h18 : Sound B 18 (Open.sp18 VA vn vc)) : Sound B 14 (sp14 VA vn vc) := s14 VA vn vc ⟨(g17 h23), h18, h23, trivial⟩
/-! ### typed rows, read as lists -/
section
variable {B : Base} {S : Nat → Prop} {N : Nat} {w : World}
theorem F2.len2 {α β : Type} {R : α → β → Prop} {xs : List α} {ys : List β} (h : F2 R xs ys) : ys.length = xs.length := (F2.length h).symm
theorem F2.c {α β : Type} {R : α → β → Prop} {a : α} {xs : List α} {ys : List β} (h : F2 R (a :: xs) ys) : ∃ b zs, ys = b :: zs ∧ R a b ∧ F2 R xs zs := by
  cases ys with
  | nil => exact h.elim
  | cons b zs => exact ⟨b, zs, rfl, h.1, h.2⟩
theorem F2.n {α β : Type} {R : α → β → Prop} {ys : List β} (h : F2 R ([] : List α) ys) : ys = [] := by
  cases ys with
  | nil => rfl
  | cons b zs => exact h.elim
theorem reads_of {α : Type} {d : Kd α} {e n : Nat} {Pr : α → Prop} (hsz : d.sz = esz e) (hrow : ∀ cs : List Value, F2 (CV S N w) (lay e) cs → ∃ x, d.K w x cs ∧ Pr x) {A : Option Addr} {c : Nat} (hn : n ≤ 1099511627776) (hW : WT S N w B) (h : SLT S N w e n A c) : ∃ l : List α, l.length = n ∧ Kd.C d w A l.length l ∧ l.length ≤ c ∧ ∀ x ∈ l, Pr x := by
  have hnc := h.2.1
  have hz := h.2.2.1
  rcases slice_cells hW h with ⟨rfl, rfl, rfl⟩ | ⟨g, q, vs, rfl, hS, hvl, hcell, hty, _⟩
  · exact ⟨[], rfl, ⟨rfl, by simp, fun h => absurd h (by simp)⟩, Nat.le_refl _, fun x hx => by cases hx⟩
  · have hF : ∀ i, i < n → ∃ x, d.K w x ((vs.drop (i * esz e)).take (esz e)) ∧ Pr x := fun i hi => by
      have hb : (i + 1) * esz e ≤ n * esz e := Nat.mul_le_mul_right _ hi
      rw [Nat.succ_mul] at hb
      refine hrow _ (F2.of ?_ (fun j ty v ht hv => ?_))
      · show esz e = _
        simp
        omega
      · have hj : j < esz e := by
          rcases Nat.lt_or_ge j (esz e) with h | h
          · exact h
          · rw [List.getElem?_eq_none (by exact h)] at ht; cases ht
        rw [List.getElem?_take_of_lt hj, List.getElem?_drop] at hv
        obtain ⟨t2, h1, h2⟩ := hty _ _ hv
        rw [Nat.add_comm, Nat.add_mul_mod_self_right, Nat.mod_eq_of_lt hj, ht] at h1
        injection h1 with h1
        subst h1
        exact h2
    classical
    have hne : ∀ i, i < n → Nonempty α := fun i hi => ⟨Classical.choose (hF i hi)⟩
    rcases Nat.eq_zero_or_pos n with h0 | h0
    · subst h0
      exact ⟨[], rfl, ⟨rfl, by simp, fun h => absurd h (by simp)⟩, hnc, fun x hx => by cases hx⟩
    · have x0 : α := Classical.choice (hne 0 h0)
      let f : Nat → α := fun i => if h : i < n then Classical.choose (hF i h) else x0
      have hf : ∀ i, i < n → d.K w (f i) ((vs.drop (i * esz e)).take (esz e)) ∧ Pr (f i) := fun i hi => by
        have := Classical.choose_spec (hF i hi)
        simp only [f, dif_pos hi]
        exact this
      refine ⟨(List.range n).map f, by simp, ⟨by simp, by simp; omega, fun _ => ⟨_, rfl, fun j p hj => ?_⟩⟩, by simpa using hnc, fun x hx => ?_⟩
      · have hjn : j < n := by
          rcases Nat.lt_or_ge j n with h | h
          · exact h
          · rw [List.getElem?_eq_none (by simpa using h)] at hj; cases hj
        have hp : f j = p := by simpa [hjn] using hj
        subst hp
        have hb : (j + 1) * esz e ≤ n * esz e := Nat.mul_le_mul_right _ hjn
        rw [Nat.succ_mul] at hb
        refine ⟨_, by rw [hsz]; simp; omega, (hf j hjn).1, fun i u hi => ?_⟩
        have hie : i < esz e := by
          rcases Nat.lt_or_ge i (esz e) with h | h
          · exact h
          · rw [List.getElem?_eq_none (by simp; omega)] at hi; cases hi
        rw [List.getElem?_take_of_lt hie, List.getElem?_drop] at hi
        rw [Addr_add, hsz]
        exact hcell _ _ hi
      · obtain ⟨i, hi, rfl⟩ := List.mem_map.1 hx
        exact (hf i (List.mem_range.1 hi)).2
theorem row47 (cs : List Value) (h : F2 (CV S N w) (lay 47) cs) : ∃ x, k47.K w x cs ∧ True := by
  obtain ⟨v0, z0, rfl, ⟨x0, _, rfl⟩, k0⟩ := F2.c h
  obtain ⟨v1, z1, rfl, ⟨x1, _, rfl⟩, k1⟩ := F2.c k0
  obtain rfl := F2.n k1
  exact ⟨⟨x0, x1⟩, k47_mk w _, trivial⟩
theorem row41 (cs : List Value) (h : F2 (CV S N w) (lay 41) cs) : ∃ x, k41.K w x cs ∧ True := by
  obtain ⟨v0, z0, rfl, ⟨x0, rfl⟩, k0⟩ := F2.c h
  obtain ⟨v1, z1, rfl, ⟨x1, rfl⟩, k1⟩ := F2.c k0
  obtain ⟨v2, z2, rfl, ⟨x2, rfl⟩, k2⟩ := F2.c k1
  obtain rfl := F2.n k2
  exact ⟨⟨x0, x1, x2⟩, k41_mk w _, trivial⟩
theorem row4 (cs : List Value) (h : F2 (CV S N w) (lay 4) cs) : ∃ x, Kd.bool.K w x cs ∧ True := by
  obtain ⟨v0, z0, rfl, ⟨x0, rfl⟩, k0⟩ := F2.c h
  obtain rfl := F2.n k0
  exact ⟨x0, rfl, trivial⟩
theorem row49 (cs : List Value) (h : F2 (CV S N w) (lay 49) cs) : ∃ x, k49.K w x cs ∧ True := by
  obtain ⟨v0, z0, rfl, ⟨x0, _, rfl⟩, k0⟩ := F2.c h
  obtain ⟨v1, z1, rfl, ⟨x1, _, rfl⟩, k1⟩ := F2.c k0
  obtain ⟨v2, z2, rfl, ⟨x2, _, rfl⟩, k2⟩ := F2.c k1
  obtain ⟨v3, z3, rfl, ⟨x3, _, rfl⟩, k3⟩ := F2.c k2
  obtain ⟨v4, z4, rfl, ⟨x4, _, rfl⟩, k4⟩ := F2.c k3
  obtain ⟨v5, z5, rfl, ⟨x5, _, rfl⟩, k5⟩ := F2.c k4
  obtain rfl := F2.n k5
  exact ⟨⟨x0, ⟨x1, x2⟩, ⟨x3, x4⟩, x5⟩, k49_mk w ⟨x0, ⟨x1, x2⟩, ⟨x3, x4⟩, x5⟩, trivial⟩
theorem row52 (hN : N ≤ 1099511627776) (hW : WT S N w B) (cs : List Value) (h : F2 (CV S N w) (lay 52) cs) : ∃ x : S52, k52.K w x cs ∧ x.f4.length ≤ N := by
  obtain ⟨v0, z0, rfl, ⟨x0, rfl⟩, k0⟩ := F2.c h
  obtain ⟨v1, z1, rfl, ⟨x1, rfl⟩, k1⟩ := F2.c k0
  obtain ⟨v2, z2, rfl, ⟨x2, rfl⟩, k2⟩ := F2.c k1
  obtain ⟨v3, z3, rfl, ⟨x3, rfl⟩, k3⟩ := F2.c k2
  obtain ⟨v4, z4, rfl, ⟨x4, rfl⟩, k4⟩ := F2.c k3
  obtain ⟨v5, z5, rfl, ⟨x5, rfl⟩, k5⟩ := F2.c k4
  obtain ⟨v6, z6, rfl, ⟨x6, rfl⟩, k6⟩ := F2.c k5
  obtain ⟨v7, z7, rfl, ⟨x7, rfl⟩, k7⟩ := F2.c k6
  obtain ⟨v8, z8, rfl, ⟨x8, rfl⟩, k8⟩ := F2.c k7
  obtain ⟨v9, z9, rfl, ⟨x9, rfl⟩, k9⟩ := F2.c k8
  obtain ⟨v10, z10, rfl, ⟨A, n, c, rfl, hs⟩, k10⟩ := F2.c k9
  obtain rfl := F2.n k10
  have hnN := hs.1
  obtain ⟨l, hl, hC, hc, _⟩ := reads_of (d := k47) (e := 47) rfl row47 (by omega) hW hs
  subst hl
  exact ⟨⟨⟨x0, ⟨x1, x2⟩, ⟨x3, x4⟩, x5⟩, x6, ⟨x7, x8⟩, x9, l⟩, k52_mk w ⟨⟨x0, ⟨x1, x2⟩, ⟨x3, x4⟩, x5⟩, x6, ⟨x7, x8⟩, x9, l⟩ hc hC, hnN⟩
end
/-! ### the draws of a batch -/
/-- Where a row lies. -/
def Shp (n : Nat) (A : Option Addr) : Prop := (A = none ∧ n = 0) ∨ ∃ g o, A = some ⟨g, o, none⟩
theorem shp_of {S : Nat → Prop} {N : Nat} {w : World} {e n c : Nat} {A : Option Addr} (h : SLT S N w e n A c) : Shp n A := by
  obtain ⟨_, h2, _, ⟨rfl, rfl⟩ | ⟨g, q, m, rfl, _⟩⟩ := h
  · exact .inl ⟨rfl, by omega⟩
  · exact .inr ⟨_, _, rfl⟩
/-- A batch as a draw leaves it: its rows can be read. -/
def IsBat (w : World) (N : Nat) (v : Value) : Prop := ∃ (s b t : Int) (A2 A4 A5 : Option Addr) (c2 c4 c5 : Nat) (l2 : List S52) (l4 : List S41) (l5 : List Bool),
  v = .agg #[.int .i64 s, .int .i64 b, .slice A2 l2.length c2, .int .i64 t, .slice A4 l4.length c4, .slice A5 l5.length c5] ∧ Kd.C k52 w A2 l2.length l2 ∧ l2.length ≤ c2 ∧ Kd.C k41 w A4 l4.length l4 ∧ l4.length ≤ c4 ∧ Kd.C Kd.bool w A5 l5.length l5 ∧ l5.length ≤ c5 ∧ l2.length ≤ N ∧ l4.length ≤ N ∧ l5.length ≤ N ∧ (∀ x ∈ l2, x.f4.length ≤ N) ∧ Shp l4.length A4
theorem isBat {B : Base} {S : Nat → Prop} {N : Nat} {w : World} {x : Int × Int × Nat × Int × Nat × Nat} {v : Value} (hN : N ≤ 1099511627776) (hW : WT S N w B) (h : V1 S N w (vB x) v) : IsBat w N v := by
  obtain ⟨s, b, n2, t, n4, n5⟩ := x
  obtain ⟨cs, rfl, h⟩ := h
  obtain ⟨v0, z0, rfl, h0, k0⟩ := F2.c h
  obtain ⟨v1, z1, rfl, h1, k1⟩ := F2.c k0
  obtain ⟨v2, z2, rfl, ⟨A2, c2, rfl, s2⟩, k2⟩ := F2.c k1
  obtain ⟨v3, z3, rfl, h3, k3⟩ := F2.c k2
  obtain ⟨v4, z4, rfl, ⟨A4, c4, rfl, s4⟩, k4⟩ := F2.c k3
  obtain ⟨v5, z5, rfl, ⟨A5, c5, rfl, s5⟩, k5⟩ := F2.c k4
  obtain rfl := F2.n k5
  obtain rfl := (show v0 = .int .i64 s from h0)
  obtain rfl := (show v1 = .int .i64 b from h1)
  obtain rfl := (show v3 = .int .i64 t from h3)
  have q2 := s2.1
  have q4 := s4.1
  have q5 := s5.1
  obtain ⟨l2, e2, C2, d2, p2⟩ := reads_of (d := k52) (e := 52) rfl (row52 hN hW) (by omega) hW s2
  obtain ⟨l4, e4, C4, d4, _⟩ := reads_of (d := k41) (e := 41) rfl row41 (by omega) hW s4
  obtain ⟨l5, e5, C5, d5, _⟩ := reads_of (d := Kd.bool) (e := 4) rfl row4 (by omega) hW s5
  have hs := shp_of s4
  subst e2; subst e4; subst e5
  exact ⟨s, b, t, A2, A4, A5, c2, c4, c5, l2, l4, l5, rfl, C2, d2, C4, d4, C5, d5, q2, q4, q5, p2, hs⟩
theorem at0_calls {f : Nat} {sp : Safe.Spec} {w : World} {A : Option Addr} {n c : Nat} (h : Sound (Pick.at0 4000 w) f sp) (hp : sp.pre [.lit (.slice A n c)] 4000) : Calls Try.prog f #[.slice A n c] w (fun e w' => ∃ v r N' S', e = .returned v ∧ sp.post [.lit (.slice A n c)] 4000 r N' ∧ 4000 ≤ N' ∧ V2 S' N' w' r v ∧ WT S' N' w' (Pick.at0 4000 w) ∧ Out (fun _ => False) w S' w') :=
  h.2 [.lit (.slice A n c)] 4000 (fun _ => False) w #[.slice A n c] hp (by omega) ⟨Out.refl _ _, Nat.le_refl _⟩ ⟨⟨rfl, .inl ⟨_, _, _, rfl⟩⟩, trivial⟩ (fun k hk => hk.elim)
theorem out_below {S' : Nat → Prop} {w w' : World} (h : Out (fun _ => False) w S' w') : Below w.heap.size w w' := ⟨h.os, h.tape, h.output, h.size, fun k hk => h.keep k hk (fun x => x)⟩
section
variable {w : World} {A : Option Addr} {c : Nat} {l0 : List Int} (hr0 : Kd.C (Kd.int .u8) w A l0.length l0) (hc0 : l0.length ≤ c) (hb0 : ∀ x ∈ l0, 0 ≤ x ∧ x ≤ 255)
include hr0 hc0 hb0
theorem draw6 : Calls Try.prog 6 #[.slice A l0.length c] w (fun e w' => ∃ v, e = .returned v ∧ IsBat w' 104000 v ∧ Below w.heap.size w w') := by
  refine Calls.mono (at0_calls (g6 A l0.length c Pick.s23 (Open.s18 hr0 hc0 hb0)) ⟨rfl, by omega, by omega⟩) ?_
  rintro e w' ⟨v, r, N', S', rfl, ⟨⟨x, N2⟩, ⟨⟨p1, p2⟩, _⟩, hr, hN⟩, h4, hV, hW, hO⟩
  dsimp only at p1 p2 hr hN
  subst hr; subst hN
  refine ⟨v, rfl, ?_, out_below hO⟩
  obtain ⟨s, b, t, A2, A4, A5, c2, c4, c5, l2, l4, l5, e, C2, d2, C4, d4, C5, d5, q2, q4, q5, p3, hs⟩ := isBat (by omega) hW (show V1 S' N' w' (vB x) v from hV)
  exact ⟨s, b, t, A2, A4, A5, c2, c4, c5, l2, l4, l5, e, C2, d2, C4, d4, C5, d5, by omega, by omega, by omega, fun y hy => Nat.le_trans (p3 y hy) (by omega), hs⟩
theorem draw14 : Calls Try.prog 14 #[.slice A l0.length c] w (fun e w' => ∃ v m n, e = .returned (.tuple #[v, .int .i64 m, .int .i64 n]) ∧ IsBat w' 105000 v ∧ Below w.heap.size w w') := by
  refine Calls.mono (at0_calls (g14 A l0.length c Pick.s23 (Open.s18 hr0 hc0 hb0)) ⟨rfl, by omega, by omega⟩) ?_
  rintro e w' ⟨v, r, N', S', rfl, ⟨⟨⟨x, m, n⟩, N2⟩, ⟨⟨p1, p2⟩, _⟩, hr, hN⟩, h4, hV, hW, hO⟩
  dsimp only at p1 p2 hr hN
  subst hr; subst hN
  obtain ⟨cs, rfl, h⟩ := hV
  obtain ⟨v0, z0, rfl, h0, k0⟩ := F2.c h
  obtain ⟨v1, z1, rfl, h1, k1⟩ := F2.c k0
  obtain ⟨v2, z2, rfl, h2, k2⟩ := F2.c k1
  obtain rfl := F2.n k2
  obtain rfl := (show v1 = .int .i64 m from h1)
  obtain rfl := (show v2 = .int .i64 n from h2)
  refine ⟨v0, m, n, rfl, ?_, out_below hO⟩
  obtain ⟨s, b, t, A2, A4, A5, c2, c4, c5, l2, l4, l5, e, C2, d2, C4, d4, C5, d5, q2, q4, q5, p3, hs⟩ := isBat (by omega) hW (show V1 S' N' w' (vB x) v0 from h0)
  exact ⟨s, b, t, A2, A4, A5, c2, c4, c5, l2, l4, l5, e, C2, d2, C4, d4, C5, d5, by omega, by omega, by omega, fun y hy => Nat.le_trans (p3 y hy) (by omega), hs⟩
end
end Go.Proofs.Ytipfdcmjcelbiaa.Safe
end

section
/-! ## P5: A law's body: the code's length is asked, a draw is called, and the typed machine runs the rest on what was drawn; no conditions. -/
set_option linter.unusedVariables false
set_option linter.unusedSimpArgs false
namespace Go.Proofs.Ytipfdcmjcelbiaa.Safe
open Go Go.RowKit

theorem seq_lift {Γ : Ctx} {B : Base} {nt : Nat} {w0 : World} {S0 : Nat → Prop} (hΓ : COk B Γ) {c1 c2 : Code} {ac : ACode} (h1 : ann nt c1 = some ac) {s : AS} {S : Nat → Prop} {L : Nat → Nat} {a : Act} {w : World} {Qa : AExit → AS → Prop} {Q : Exit → Act → World → Prop} (hR : Rel B nt w0 S0 s S L a w) (h : awp Γ ac Qa s) (hn : ∀ s' S' L' a' w', Qa .norm s' → Rel B nt w0 S0 s' S' L' a' w' → c2.wp Try.prog Q a' w') (hr : ∀ s' S' L' a' w', Qa .ret s' → Rel B nt w0 S0 s' S' L' a' w' → Q .ret a' w') (hx : ∀ i s', ¬ Qa (.exit i) s') : (Code.seq c1 c2).wp Try.prog Q a w := by
  refine wp_seq (wp_mono (awp_ok hΓ c1 h1 hR h) ?_)
  rintro e a' w' ⟨ae, s', S', L', hx', hq, hR'⟩
  cases ae <;> cases e <;> first
    | exact hx'.elim
    | exact (hx _ _ hq).elim
    | exact hn _ _ _ _ _ hq hR'
    | exact hr _ _ _ _ _ hq hR'
def pa2 : ACode := .ops [⟨some 2, none, .mv (.c (.bool false))⟩]
def pb2 (p q r : Nat) : ACode := .seq (.ops [⟨some p, none, .mv (.t 0)⟩, ⟨some q, none, .len false (.t p)⟩, ⟨some r, none, .bin .gtr 3 (.t q) (.c (.int 1048576))⟩]) (.cond (.t r) (.seq (.ops [⟨some 2, none, .mv (.c (.bool true))⟩]) .ret) .skip)
def g0 : Ctx := ⟨fun _ => none, fun _ _ => none⟩
theorem g0_ok (B : Base) : COk B g0 := by
  constructor
  · intro f sp h
    cases h
  · intro S N w _ ad n l h
    cases h
def tru (e : AExit) (s : AS) : Prop := (match e with | .exit _ => False | _ => True) ∧ s.T 2 = .bool true
def hd2 (v : Value) (e : AExit) (s : AS) : Prop := match e with | .norm => s.T 0 = .lit v | .ret => s.T 2 = .bool true | .exit _ => False
theorem pa2_run (v : Value) (s : AS) (h : s.T 0 = .lit v) : awp g0 pa2 (hd2 v) s := by
  obtain ⟨T, M, N⟩ := s
  show Run g0 pa2 [] (hd2 v) ⟨T, M, N⟩
  simp only [pa2, R_ops, O_mv, Ro_nil, K_nil, hd2, U_at, E_c]
  simpa using h
theorem pb2_run (A : Option Addr) (n c p q r : Nat) (hp : 2 < p) (hpq : p < q) (hqr : q < r) (s : AS) (h : s.T 0 = .lit (.slice A n c)) : awp g0 (pb2 p q r) (hd2 (.slice A n c)) s := by
  obtain ⟨T, M, N⟩ := s
  have h : T 0 = .lit (.slice A n c) := h
  have a1 : (q = p) = False := by simp; omega
  have a2 : (0 = p) = False := by simp; omega
  have a3 : (0 = q) = False := by simp; omega
  have a4 : (0 = r) = False := by simp; omega
  have a5 : (p = q) = False := by simp; omega
  show Run g0 (pb2 p q r) [] (hd2 (.slice A n c)) ⟨T, M, N⟩
  simp only [pb2, R_seq, R_ops, O_mv, Ro_nil, K_sqn, O_lenf, E_t, U_at, h, if_true, lenL, t_eq, P_s, L_bin, E_c, B_gtr, Br_d, R_cond, C_t, C_f, R_ret, R_skip, K_nil, K_sqr, hd2, B_t, a1, a2, a3, a4, if_false, reduceIte]
  simp
/-- The end of a law: true, and all that lay there lies there. -/
theorem tru_end {fn : Func} {B : Base} {nt : Nat} {W w0 : World} {S0 : Nat → Prop} (hr : annRs fn.results.toList = some [.t 2]) (hW : Below W.heap.size W w0) (hS : ∀ k, S0 k → W.heap.size ≤ k) {s : AS} {S : Nat → Prop} {L : Nat → Nat} {a : Act} {w : World} (hR : Rel B nt w0 S0 s S L a w) (h : s.T 2 = .bool true) : a.defers = [] ∧ ∃ v, (results fn a.tmps).run Try.prog w = .ok v w ∧ (Ending.returned v = .returned (.bool true) ∧ Below W.heap.size W w) := by
  obtain ⟨v, e1, e2⟩ := res_ok hR hr (show okRs s [.t 2] from ⟨by show p1 (s.T 2) = true; rw [h]; rfl, trivial⟩)
  have e3 : V2 S s.N w (s.T 2) v := e2
  rw [h] at e3
  obtain rfl := (show v = .bool true from e3)
  refine ⟨hR.defers, _, e1, rfl, hR.out.os.trans hW.os, hR.out.tape.trans hW.tape, hR.out.output.trans hW.output, Nat.le_trans hW.size hR.out.size, fun k hk => ?_⟩
  exact (hR.out.keep k (Nat.lt_of_lt_of_le hk hW.size) (fun hs => by have := hS k hs; omega)).trans (hW.block k hk)
/-- What the rest of a law needs of what was drawn. -/
structure Drawn (W w1 : World) (v : Value) (d : Nat) (R : List AOper) (pr : ACode) : Prop where
  run : ∃ (S1 : Nat → Prop) (N1 : Nat) (x : AV) (Γ : Ctx), 16 ≤ N1 ∧ (∀ k, S1 k → W.heap.size ≤ k) ∧ WT S1 N1 w1 ⟨S1, N1, w1⟩ ∧ COk ⟨S1, N1, w1⟩ Γ ∧ V2 S1 N1 w1 x v ∧ aops Γ R ⟨upd (fun _ => .any) d x, fun _ => (0, []), N1⟩ (awp Γ pr tru)
theorem law_run {f D m d p q r : Nat} {fn : Func} {Ca Cb Cr : Code} {id : Nat} {ops : Array Oper} {R : List AOper} {idx : List Nat} {pr : ACode} (hf : Try.prog.funcs[f]? = some fn) (hb : fn.body = some (.seq Ca (.seq Cb (.seq (.region id ops false) Cr)))) (hr : annRs fn.results.toList = some [.t 2]) (hnt : 0 < fn.ntmps)
    (ha : ann fn.ntmps Ca = some pa2) (hbb : ann fn.ntmps Cb = some (pb2 p q r)) (hpr : ann fn.ntmps Cr = some pr) (hp : 2 < p) (hpq : p < q) (hqr : q < r)
    (hops : annGo fn.ntmps ops (fun _ => true) (fun _ => []) 0 ops.toList = some (⟨some m, none, .mv (.t 0)⟩ :: ⟨some d, none, .call D [.t m]⟩ :: R)) (hidx : List.range ops.size = 0 :: 1 :: idx) (hsel : sel (⟨some m, none, .mv (.t 0)⟩ :: ⟨some d, none, .call D [.t m]⟩ :: R) idx = R)
    (h1 : ∃ o, ops[1]? = some o ∧ o.guard = none ∧ o.dst = some d ∧ ∃ ty, o.op = .call { callee := .value (.func D), args := #[.tmp m], argTypes := ty }) (hdn : d < fn.ntmps) (hcall : ∀ (args : Array Value) (w : World), (callFunc D args).run Try.prog w = .ok (.enter D args) w)
    {A : Option Addr} {n c : Nat} {W : World} (draw : ∀ w, Below W.heap.size W w → Calls Try.prog D #[.slice A n c] w (fun e w1 => ∃ v, e = .returned v ∧ Drawn W w1 v d R pr ∧ Below w.heap.size w w1)) :
    Calls Try.prog f #[.slice A n c] W (fun e w' => e = .returned (.bool true) ∧ Below W.heap.size W w') := by
  refine calls_of_wp hf hb ?_
  have hR : Rel (Pick.at0 4000 W) fn.ntmps W (fun _ => False) ⟨upd (fun _ => .any) 0 (.lit (.slice A n c)), fun _ => (0, []), 4000⟩ (fun _ => False) (fun _ => 0) { tmps := #[.slice A n c] ++ Array.replicate (fn.ntmps - (#[Value.slice A n c] : Array Value).size) Go.undef, defers := [] } W := {
    defers := rfl
    size := by simp; omega
    out := Out.refl _ _
    wt := fun k hk => hk.elim
    tm := fun t => by
      simp only [upd]
      by_cases h : t = 0
      · subst h
        rw [if_pos rfl]
        exact ⟨by rw [Array.getD_eq_getD_getElem?, Array.getElem?_append_left (by simp)]; rfl, .inl ⟨_, _, _, rfl⟩⟩
      · rw [if_neg h]
        exact trivial
    loc := fun b hb => absurd rfl hb
    inj := fun b b' hb => absurd rfl hb
    big := by show 16 ≤ 4000; omega
    base := ⟨Out.refl _ _, Nat.le_refl _⟩ }
  have hnoS : ∀ k, (fun _ : Nat => False) k → W.heap.size ≤ k := fun k h => h.elim
  refine seq_lift (g0_ok _) ha hR (pa2_run (.slice A n c) _ rfl) ?_ ?_ (fun i s' h => h)
  · intro s1 S1 L1 a1 w1 hq1 hR1
    refine seq_lift (g0_ok _) hbb hR1 (pb2_run A n c p q r hp hpq hqr _ hq1) ?_ ?_ (fun i s' h => h)
    · intro s2 S2 L2 a2 w2 hq2 hR2
      refine wp_seq (wp_region ?_)
      rw [hidx, wpOps_cons]
      obtain ⟨hl, hall⟩ := AnnAll.of hops
      have ho0 : ∃ o, ops[0]? = some o := by
        cases h : ops[0]? with
        | none => have := hall.1 0 h; simp at this
        | some o => exact ⟨o, rfl⟩
      obtain ⟨o0, ho0⟩ := ho0
      obtain ⟨ao, fl, al, e1, e2⟩ := hall.2 0 o0 ho0
      simp only [List.getElem?_cons_zero, Option.some.injEq] at e1
      subst e1
      refine wpOp_mono ?_ (wpOp_ok (g0_ok _) ho0 e2 hR2 (K := fun s => s.T m = .lit (.slice A n c)) (by
        refine (astep_iff _ _ _ _).2 ⟨trivial, fun r hr => ?_⟩
        subst hr
        show upd s2.T m _ m = _
        simp only [upd, if_true]
        exact hq2))
      rintro a3 w3 ⟨s3, S3, L3, hk3, hR3⟩
      rw [wpOps_cons]
      obtain ⟨o1, ho1, hg1, hd1, ty, hop1⟩ := h1
      have htm := hR3.tm m
      rw [show s3.T m = _ from hk3] at htm
      obtain ⟨htm, _⟩ := (show SV S3 s3.N w3 (.lit (.slice A n c)) _ from htm)
      have hBel : Below W.heap.size W w3 := out_below hR3.out
      unfold wpOp
      simp only [ho1]
      rw [if_pos (show Region.wanted o1 (yielded ops a3.tmps) = true by simp [Region.wanted, hg1])]
      refine .inl ?_
      have hrun : (execOp a3.eval o1).run Try.prog w3 = .ok (.enter D #[.slice A n c]) w3 := by
        have := hcall #[.slice A n c] w3
        simp [execOp, hop1, resolve, Act.eval, Deferred.ofValue, invoke, this, htm]
      unfold Oper.wp
      rw [hrun, Oper.upon_enter]
      refine Calls.mono (draw w3 hBel) ?_
      rintro e w4 ⟨v, rfl, ⟨SS, NN, x, Γ, h16, hSS, hWT, hC, hV, hrest⟩, hB4⟩
      have hB04 : Below W.heap.size W w4 := ⟨hB4.os.trans hBel.os, hB4.tape.trans hBel.tape, hB4.output.trans hBel.output, Nat.le_trans hBel.size hB4.size, fun k hk => (hB4.block k (Nat.lt_of_lt_of_le hk hBel.size)).trans (hBel.block k hk)⟩
      have hR4 : Rel ⟨SS, NN, w4⟩ fn.ntmps w4 SS ⟨upd (fun _ => .any) d x, fun _ => (0, []), NN⟩ SS (fun _ => 0) (a3.put (some d) v) w4 := {
        defers := hR3.defers
        size := by simp [Act.put, hR3.size]
        out := Out.refl _ _
        wt := hWT
        tm := fun t => by
          rw [getD_put a3 (some d) v (fun k hk => by injection hk with hk; subst hk; rw [hR3.size]; exact hdn)]
          simp only [upd, Option.some.injEq]
          by_cases e : d = t
          · subst e
            rw [if_pos rfl, if_pos rfl]
            exact V3_of_V2 hV
          · rw [if_neg e, if_neg (Ne.symm e)]
            exact trivial
        loc := fun b hb => absurd rfl hb
        inj := fun b b' hb => absurd rfl hb
        big := h16
        base := ⟨Out.refl _ _, Nat.le_refl _⟩ }
      show wpOps Try.prog ops _ idx (a3.put o1.dst v) w4
      rw [hd1]
      refine wpOps_ok (K := awp Γ pr tru) hC hall ?_ idx _ SS _ _ w4 hR4 (by rw [hsel]; exact hrest)
      intro s5 S5 L5 a5 w5 hk5 hR5
      refine wp_mono (awp_ok hC Cr hpr hR5 hk5) ?_
      rintro e a6 w6 ⟨ae, s6, S6, L6, hx6, hq6, hR6⟩
      cases ae <;> cases e <;> first
        | exact hx6.elim
        | exact hq6.1.elim
        | exact tru_end hr hB04 hSS hR6 hq6.2
    · intro s2 S2 L2 a2 w2 hq2 hR2
      exact tru_end hr (Below.refl _ _) hnoS hR2 hq2
  · intro s1 S1 L1 a1 w1 hq1 hR1
    exact tru_end hr (Below.refl _ _) hnoS hR1 hq1
end Go.Proofs.Ytipfdcmjcelbiaa.Safe
end

section
/-! ## PX: What the laws' runs share: functions that leave all that lies there, rows that are known, a body in parts; no conditions. -/
set_option linter.unusedVariables false
set_option linter.unusedSimpArgs false
namespace Go.Proofs.Ytipfdcmjcelbiaa.Safe
open Go Go.RowKit Go.Proofs.Ytipfdcmjcelbiaa.All Go.Proofs.YtipfdcmjcelbiaaW.PrintWords Go.Proofs.YtipfdcmjcelbiaaW.PrintLast Go.Proofs.YtipfdcmjcelbiaaW.PrintMore
/-- A function that leaves all that lies there, and gives a plain value. -/
theorem below_sound {B : Base} {f : Nat} {sp : Safe.Spec} (hcall : ∀ (args : Array Value) (w : World), (callFunc f args).run Try.prog w = .ok (.enter f args) w) (h : ∀ (l : List AV) (N : Nat) (S : Nat → Prop) (w : World) (vs : Array Value), sp.pre l N → B.P S N w → WT S N w B → F2 (V2 S N w) l vs.toList → ∃ r v, sp.post l N r N ∧ (∀ w', V2 S N w' r v) ∧ Calls Try.prog f vs w (fun e w' => e = .returned v ∧ Below w.heap.size w w')) : Sound B f sp := by
  refine ⟨hcall, fun l N S w vs hpre hN hP hvs hW => ?_⟩
  obtain ⟨r, v, h1, h2, h3⟩ := h l N S w vs hpre hP hW hvs
  refine Calls.mono h3 ?_
  rintro e w' ⟨rfl, hBl⟩
  have hsz : ∀ k, k < w.heap.size → w'.heap[k]? = w.heap[k]? := fun k hk => hBl.block k hk
  refine ⟨v, r, N, S, rfl, h1, Nat.le_refl N, h2 w', hW.same (Nat.le_refl N) hBl.size hsz, ?_⟩
  exact ⟨fun _ h => h, fun _ h => .inl h, hBl.size, fun k hk _ => hsz k hk, fun k e m hk ⟨c1, hc1, hm1⟩ => ⟨c1, (hsz k (hW.lt hk)).trans hc1, hm1⟩, hBl.os, hBl.tape, hBl.output⟩
theorem cu_ok : laws_cuOk.f = some true := by
  unfold laws_cuOk.f
  rfl
abbrev spC : Safe.Spec := mkS (α := Bool) (fun l N => l = []) (fun l N x => x = true) .bool (fun l N x => N) (fun l N h => ⟨true, rfl, Nat.le_refl _⟩)
theorem sC {B : Base} : Sound B 9 spC := by
  refine below_sound (fun args w => by kernel_rfl) (fun l N S w vs hpre hP hW hvs => ?_)
  obtain rfl : l = [] := hpre
  obtain ⟨vl⟩ := vs
  obtain rfl := F2.n hvs
  exact ⟨.bool true, .bool true, ⟨true, rfl, rfl, rfl⟩, fun w' => rfl, laws_cuOk.calls true w cu_ok⟩
/-! ### a body, in parts -/
def cA : Code → Code | .seq a _ => a | c => c
def cB : Code → Code | .seq _ b => b | c => c
def cO : Code → Array Oper | .region _ o _ => o | _ => #[]
def cI : Code → Nat | .region i _ _ => i | _ => 0
def body (fn : Func) : Code := fn.body.getD .skip
theorem at0_wt (N : Nat) (w1 : World) : WT (fun _ => False) N w1 (Pick.at0 N w1) := fun k hk => hk.elim
/-! ### rows that are known -/
/-- A row of len elements of k cells each, at block g from o on. -/
def mrow (k g o len : Nat) (row : Nat → List AV) : Addr → Nat → Option (List AV) := fun ad n =>
  match ad with
  | ⟨g', o', none⟩ => if g' = g ∧ o ≤ o' ∧ (o' - o) / k < len ∧ (o' - o) % k + n ≤ k then some (((row ((o' - o) / k)).drop ((o' - o) % k)).take n) else none
  | _ => none
theorem mrow_at {k g o len : Nat} {row : Nat → List AV} {i j n : Nat} (hi : i < len) (hj : j + n ≤ k) (hn : 0 < n) : mrow k g o len row ⟨g, o + i * k + j, none⟩ n = some (((row i).drop j).take n) := by
  have e1 : (o + i * k + j - o) / k = i := by
    rw [show o + i * k + j - o = j + i * k by omega, Nat.add_mul_div_right _ _ (by omega), Nat.div_eq_of_lt (by omega), Nat.zero_add]
  have e2 : (o + i * k + j - o) % k = j := by
    rw [show o + i * k + j - o = j + i * k by omega, Nat.add_mul_mod_self_right, Nat.mod_eq_of_lt (by omega)]
  simp only [mrow]
  rw [e1, e2, if_pos ⟨trivial, by omega, hi, hj⟩]
theorem mrow_ok {B : Base} {k g o len : Nat} {row : Nat → List AV} (hk : 0 < k) (h : ∀ S N w, B.P S N w → ∀ i, i < len → ∃ cs : List Value, F2 (SV S N w) (row i) cs ∧ cs.length = k ∧ ∀ j v, cs[j]? = some v → w.cell? ⟨g, o + i * k + j, none⟩ = some v) : MOk B (mrow k g o len row) := by
  intro S N w hP ad n l hm
  unfold mrow at hm
  split at hm
  · rename_i g' o'
    split at hm
    · rename_i hc
      obtain ⟨rfl, h1, h2, h3⟩ := hc
      injection hm with hm
      subst hm
      obtain ⟨cs, hf, hl, hcell⟩ := h S N w hP _ h2
      have hd := Nat.div_add_mod (o' - o) k
      rw [Nat.mul_comm] at hd
      refine ⟨(cs.drop ((o' - o) % k)).take n, F2.take _ (F2.drop _ hf), by simp; omega, fun j v hj => ?_⟩
      have hjn : j < n := by
        rcases Nat.lt_or_ge j n with h | h
        · exact h
        · rw [List.getElem?_eq_none (by simp; omega)] at hj; cases hj
      rw [List.getElem?_take_of_lt hjn, List.getElem?_drop] at hj
      rw [Addr_add, show o' + j = o + (o' - o) / k * k + ((o' - o) % k + j) by omega]
      exact hcell _ _ hj
    · cases hm
  · cases hm
theorem Good.okM {B : Base} {l : List (Nat × Safe.Spec)} {m : Addr → Nat → Option (List AV)} (h : Good B l) (hm : MOk B m) : COk B (lkM l m) := ⟨h.all, hm⟩
end Go.Proofs.Ytipfdcmjcelbiaa.Safe
end
