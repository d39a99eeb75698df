/-
  The parts of the function that cuts a list.
-/
import Derived.Test.YtamcbdflmephdaaRg
import Derived.Test.YtamcbdflmephdaaProg
import Derived.KernelRfl
import Derived.Test.YtamcbdflmephdaaEngZ
import Derived.Test.YtamcbdflmephdaaFiL
set_option linter.unusedVariables false
set_option linter.unusedSimpArgs false
namespace Go.Proofs.Ytamcbdflmephdaa.E
open Go
def sqL : Code → Code
  | .seq a _ => a
  | c => c
def sqR : Code → Code
  | .seq _ b => b
  | c => c
def blk : Code → Code
  | .block _ c => c
  | .loop c => c
  | c => c
def rfA : Code → Code
  | .rangeFunc _ _ a _ => a
  | c => c
def rfB : Code → Code
  | .rangeFunc _ _ _ b => b
  | c => c
def rgO : Code → Array Oper
  | .region _ ops _ => ops
  | _ => #[]
def p16a (b : Code) : Code := sqL b
def p16b (b : Code) : Code := sqL (sqR b)
def p16c (b : Code) : Code := sqL (sqR (sqR b))
def m16 (b : Code) : Code := sqR (sqR (sqR b))
def q16 (b : Code) : Code := sqL (sqL (m16 b))
def r16 (b : Code) : Code := blk (sqR (sqL (m16 b)))
def a16 (b : Code) : Code := rfA (r16 b)
def y16 (b : Code) : Code := rfB (r16 b)
def c16 (b : Code) : Code := sqR (m16 b)
def v16 (b : Code) : Code := sqL (c16 b)
def w16 (b : Code) : Code := sqR (c16 b)
end Go.Proofs.Ytamcbdflmephdaa.E

namespace Go.Proofs.Ytamcbdflmephdaa.E
open Go
def i56 (b : Code) : Code := sqL b
def l56 (b : Code) : Code := blk (blk (sqR b))
def h56 (b : Code) : Code := sqL (l56 b)
def k56 (b : Code) : Code := blk (sqL (sqR (l56 b)))
def g56 (b : Code) : Code := sqL (k56 b)
def n56 (b : Code) : Code := sqR (sqR (l56 b))
def tg56 : Array Bool := #[true, true, true, true, true, true, true, true, true, true, true, true, false, false, false]
end Go.Proofs.Ytamcbdflmephdaa.E

namespace Go.Proofs.Ytamcbdflmephdaa.E
open Go
set_option maxHeartbeats 4000000
set_option maxRecDepth 100000
set_option linter.unusedSimpArgs false
set_option linter.unusedVariables false
attribute [local congr] c_wp c_ops c_op c_opS c_run c_runS c_dt c_seq c_blk c_loop c_S c_put c_bind c_mv c_pick c_nt c_ng c_bin c_binI c_binS c_beq c_B c_eqa c_hd c_cells c_blkK c_box c_vec c_mp c_nck c_mks c_appn c_mkm c_mput c_mlk c_mrm c_take c_ld c_ldF c_cellsK c_st c_fld c_fldv c_ix c_ixp c_ixv c_ixs c_sub c_subs c_len c_lens c_src c_dst c_ow c_app c_ext c_mm c_conv c_str c_isn c_fill c_rows c_boxo c_frz c_frzO c_frzA c_frzV c_spec c_specO c_opsP c_opP c_runP c_specP c_Z c_qretP c_fz c_fn c_gv c_cond c_res1 c_resL c_ret c_qret c_ite c_unr c_nx c_bk c_cut c_is
attribute [local irreducible] dwp
def ac_i56 : AC := (.ops [⟨(some 5), none, (.ld false 1 (.t 1))⟩, ⟨(some 6), none, (.len (.t 5))⟩, ⟨(some 7), none, (.bin .sub (.t 6) (.c (.int .i64 1)))⟩, ⟨(some 4), none, (.mv (.t 7))⟩])
theorem tr_i56 : trCodeF Try.prog [] (i56 (Try.f56.body.getD .skip)) = some (strip ac_i56) := by kernel_rfl
def ac_h56 : AC := (.seq (.ops [⟨(some 8), none, (.mv (.t 4))⟩, ⟨(some 9), none, (.bin .geq (.t 8) (.c (.int .i64 0)))⟩]) (.cond (.t 9) .skip (.exit 0)))
theorem tr_h56 : trCodeF Try.prog [] (h56 (Try.f56.body.getD .skip)) = some (strip ac_h56) := by kernel_rfl
def ac_n56 : AC := (.ops [⟨(some 10), none, (.mv (.t 4))⟩, ⟨(some 11), none, (.bin .sub (.t 10) (.c (.int .i64 1)))⟩, ⟨(some 4), none, (.mv (.t 11))⟩])
theorem tr_n56 : trCodeF Try.prog [] (n56 (Try.f56.body.getD .skip)) = some (strip ac_n56) := by kernel_rfl

def dt56 : DT := (.q false ⟨(some 12), none, (.ld true 5 (.t 2))⟩ (.q false ⟨(some 13), none, (.ld false 1 (.t 1))⟩ (.q false ⟨(some 14), none, (.mv (.t 4))⟩ (.q false ⟨(some 15), none, (.ix 29 (.t 13) (.t 14))⟩ (.q false ⟨(some 16), none, (.ld true 29 (.t 15))⟩ (.op ⟨(some 17), none, (.call false 14 [(.t 12), (.t 16)])⟩ (.q false ⟨(some 18), none, (.mv (.t 17))⟩ (.q false ⟨(some 19), (some (18, true)), (.mv (.t 0))⟩ (.q false ⟨(some 20), (some (18, true)), (.ld false 1 (.t 1))⟩ (.q false ⟨(some 21), (some (18, true)), (.mv (.t 4))⟩ (.q false ⟨(some 22), (some (18, true)), (.ix 29 (.t 20) (.t 21))⟩ (.q false ⟨(some 23), (some (18, true)), (.ld true 29 (.t 22))⟩ .nil))))))))))))
theorem mk56 : mkDM Try.prog (rgO (g56 (Try.f56.body.getD .skip))) 12 tg56 2 = some dt56 := by kernel_rfl
theorem body56 : Try.f56.body = some (.seq (i56 (Try.f56.body.getD .skip)) (.block 0 (.loop (.seq (h56 (Try.f56.body.getD .skip)) (.seq (.block 1 (.seq (.region 3 (rgO (g56 (Try.f56.body.getD .skip))) true) (.cond (.tmp 26) .ret .skip))) (n56 (Try.f56.body.getD .skip))))))) := by kernel_rfl
def E56 (f : Flt) (es : List Ev) (d : DV) : List DV := [.ow 0, .pf [.sl 29 (es.map encEv)], .pf (encFl f), .any, d] ++ List.replicate 22 .any
def iQ (d : DV) (e : AE) (s : DS) : Prop := e = .normal ∧ s.env.length = 27 ∧ s.env[4]? = some d
def hQ (k : Nat) (e : AE) (s : DS) : Prop := s.env.length = 27 ∧ s.env[4]? = some (.int .i64 ((k : Int) - 1)) ∧ ((e = .normal ∧ 0 < k) ∨ (e = .exit 0 ∧ k = 0))
def kG (f : Flt) (e : Ev) (k : Nat) (s : DS) : Prop := s.env.length = 27 ∧ s.env[4]? = some (.int .i64 k) ∧ s.env[0]? = some (.ow 0) ∧ s.env[18]? = some (.bool (wants f e)) ∧ (wants f e = true → s.env[19]? = some (.ow 0) ∧ s.env[23]? = some (.agg (encEv e)))
theorem walkI (f : Flt) (es : List Ev) (hb : es.length ≤ 1000) : dwp Try.prog ac_i56 ⟨E56 f es .any, []⟩ (iQ (.int .i64 ((es.length : Int) - 1))) := by
  unfold ac_i56 E56
  have hw : IntKind.i64.wrap ((es.length : Int) - 1) = (es.length : Int) - 1 := wrap_in (by omega) (by omega)
  iterate 30 (all_goals (try (first
    | (with_reducible refine ite_in (fun _ => ?_) (fun _ => ?_))
    | (with_reducible refine ⟨fun _ => ?_, fun _ => ?_⟩)
    | (with_reducible refine And.intro ?_ ?_)
    | (with_reducible intro _)
    | (with_reducible exact is_in _)
    | (simp -implicitDefEqProofs only [SD, SF, SL, e_nf, reduceCtorEq, implies_true, ↓reduceIte, Nat.reduceEqDiff, Nat.reduceAdd, Nat.reduceMul, Nat.reduceSub, Nat.reduceLeDiff, Nat.reduceLT, Int.reduceLT, Int.reduceLE, Int.reduceEq, Int.reduceToNat, Int.reduceAdd, Int.reduceSub, Int.reduceNeg, Int.reduceBEq, Int.reduceBNe, Nat.reduceBEq, Int.cast_ofNat_Int, decide_true, decide_false, ne_eq, eq_self_iff_true, beq_eq_false_iff_ne, bne_iff_ne, List.replicate, hw, encEv, encFl, iQ, *]))))
  all_goals (rfl)
theorem walkH (f : Flt) (es : List Ev) (k : Nat) (hk : k ≤ es.length) : dwp Try.prog ac_h56 ⟨E56 f es (.int .i64 ((k : Int) - 1)), []⟩ (hQ k) := by
  unfold ac_h56 E56
  iterate 30 (all_goals (try (first
    | (with_reducible refine ite_in (fun _ => ?_) (fun _ => ?_))
    | (with_reducible refine ⟨fun _ => ?_, fun _ => ?_⟩)
    | (with_reducible refine And.intro ?_ ?_)
    | (with_reducible intro _)
    | (with_reducible exact is_in _)
    | (simp -implicitDefEqProofs only [SD, SF, SL, e_nf, reduceCtorEq, implies_true, ↓reduceIte, Nat.reduceEqDiff, Nat.reduceAdd, Nat.reduceMul, Nat.reduceSub, Nat.reduceLeDiff, Nat.reduceLT, Int.reduceLT, Int.reduceLE, Int.reduceEq, Int.reduceToNat, Int.reduceAdd, Int.reduceSub, Int.reduceNeg, Int.reduceBEq, Int.reduceBNe, Nat.reduceBEq, Int.cast_ofNat_Int, decide_true, decide_false, ne_eq, eq_self_iff_true, beq_eq_false_iff_ne, bne_iff_ne, List.replicate, encEv, encFl, hQ, *]))))
  all_goals (first | rfl | omega | (simp; omega))
theorem walkN (f : Flt) (es : List Ev) (k : Nat) (hb : k ≤ 1000) : dwp Try.prog ac_n56 ⟨E56 f es (.int .i64 k), []⟩ (iQ (.int .i64 ((k : Int) - 1))) := by
  unfold ac_n56 E56
  have hw : IntKind.i64.wrap ((k : Int) - 1) = (k : Int) - 1 := wrap_in (by omega) (by omega)
  iterate 30 (all_goals (try (first
    | (with_reducible refine ite_in (fun _ => ?_) (fun _ => ?_))
    | (with_reducible refine ⟨fun _ => ?_, fun _ => ?_⟩)
    | (with_reducible refine And.intro ?_ ?_)
    | (with_reducible intro _)
    | (with_reducible exact is_in _)
    | (simp -implicitDefEqProofs only [SD, SF, SL, e_nf, reduceCtorEq, implies_true, ↓reduceIte, Nat.reduceEqDiff, Nat.reduceAdd, Nat.reduceMul, Nat.reduceSub, Nat.reduceLeDiff, Nat.reduceLT, Int.reduceLT, Int.reduceLE, Int.reduceEq, Int.reduceToNat, Int.reduceAdd, Int.reduceSub, Int.reduceNeg, Int.reduceBEq, Int.reduceBNe, Nat.reduceBEq, Int.cast_ofNat_Int, decide_true, decide_false, ne_eq, eq_self_iff_true, beq_eq_false_iff_ne, bne_iff_ne, List.replicate, hw, encEv, encFl, iQ, *]))))
  all_goals (rfl)
theorem walkG (f : Flt) (es : List Ev) (k : Nat) (e : Ev) (he : es[k]? = some e) (hb : es.length ≤ 1000) : dDT Try.prog dt56 ⟨E56 f es (.int .i64 k), []⟩ (kG f e k) := by
  unfold dt56 E56
  have hl : k < es.length := (List.getElem?_eq_some_iff.1 he).1
  have hgd : (es.map encEv).getD k [] = encEv e := by simp [List.getD, he]
  have hki : (k : Int) < (es.length : Int) := by omega
  clear he hl
  by_cases hw : wants f e = true
  case pos =>
    iterate 30 (all_goals (try (first
      | ((with_reducible refine of_kSpec ?_); refine call_fz (spec14 f e) rfl ?_)
      | (with_reducible refine ite_in (fun _ => ?_) (fun _ => ?_))
      | (with_reducible refine ⟨fun _ => ?_, fun _ => ?_⟩)
      | (with_reducible refine And.intro ?_ ?_)
      | (with_reducible intro _)
      | (with_reducible exact is_in _)
      | (simp -implicitDefEqProofs only [SD, SF, SL, e_nf, reduceCtorEq, implies_true, ↓reduceIte, Nat.reduceEqDiff, Nat.reduceAdd, Nat.reduceMul, Nat.reduceSub, Nat.reduceLeDiff, Nat.reduceLT, Int.reduceLT, Int.reduceLE, Int.reduceEq, Int.reduceToNat, Int.reduceAdd, Int.reduceSub, Int.reduceNeg, Int.reduceBEq, Int.reduceBNe, Nat.reduceBEq, Int.cast_ofNat_Int, decide_true, decide_false, ne_eq, eq_self_iff_true, beq_eq_false_iff_ne, bne_iff_ne, List.replicate, E56, encEv, encFl, hw, kG, hgd, hki, *]))))
    all_goals (first | rfl | (intro h; exact absurd h hw) | skip)
  case neg =>
    iterate 30 (all_goals (try (first
      | ((with_reducible refine of_kSpec ?_); refine call_fz (spec14 f e) rfl ?_)
      | (with_reducible refine ite_in (fun _ => ?_) (fun _ => ?_))
      | (with_reducible refine ⟨fun _ => ?_, fun _ => ?_⟩)
      | (with_reducible refine And.intro ?_ ?_)
      | (with_reducible intro _)
      | (with_reducible exact is_in _)
      | (simp -implicitDefEqProofs only [SD, SF, SL, e_nf, reduceCtorEq, implies_true, ↓reduceIte, Nat.reduceEqDiff, Nat.reduceAdd, Nat.reduceMul, Nat.reduceSub, Nat.reduceLeDiff, Nat.reduceLT, Int.reduceLT, Int.reduceLE, Int.reduceEq, Int.reduceToNat, Int.reduceAdd, Int.reduceSub, Int.reduceNeg, Int.reduceBEq, Int.reduceBNe, Nat.reduceBEq, Int.cast_ofNat_Int, decide_true, decide_false, ne_eq, eq_self_iff_true, beq_eq_false_iff_ne, bne_iff_ne, List.replicate, E56, encEv, encFl, hw, kG, hgd, hki, *]))))
    all_goals (first | rfl | (intro h; exact absurd h hw) | skip)

end Go.Proofs.Ytamcbdflmephdaa.E
