/-
  RaA: walks of functions of the program at data level.
-/
import Derived.Test.YthackanfbemabaaProg
import Derived.Test.YthackanfbemabaaEngV
import Derived.KernelRfl
set_option linter.unusedVariables false
set_option linter.unusedSimpArgs false
namespace Go.Proofs.Ythackanfbemabaa.E
open Go
set_option maxHeartbeats 1000000
set_option maxRecDepth 100000
set_option linter.unusedSimpArgs false
set_option linter.unusedVariables false
attribute [local congr] c_wp c_ops c_op c_opS c_run c_runS c_dt c_seq c_blk c_loop c_S c_put c_bind c_mv c_pick c_nt c_ng c_bin c_binI c_binS c_beq c_B c_eqa c_hd c_cells c_blkK c_box c_vec c_take c_ld c_ldF c_cellsK c_st c_fld c_fldv c_ix c_ixp c_ixv c_ixs c_sub c_subs c_len c_lens c_src c_dst c_ow c_app c_ext c_mm c_conv c_str c_isn c_fill c_rows c_boxo c_frz c_frzO c_frzA c_frzV c_spec c_specO c_fz c_fn c_gv c_cond c_res1 c_resL c_ret c_qret
attribute [local irreducible] dwp

structure LU where
  user : List UInt8
  n : Int
def encLU (l : LU) : List DV := [.str l.user, .int .i64 l.n]
structure LK where
  kind : Int
  n : Int
def encLK (l : LK) : List DV := [.int .i64 l.kind, .int .i64 l.n]
def encS (s : List UInt8) : List DV := [.str s]
structure Lv where
  users : List LU
  kinds : List LK
  a2 : Int
  a3 : Int
  a4 : Int
  a5 : Int
  a6 : Int
  a7 : Int
  a8 : Int
def encLv (v : Lv) : List DV := [.sl 2 (v.users.map encLU), .sl 2 (v.kinds.map encLK), .int .i64 v.a2, .int .i64 v.a3, .int .i64 v.a4, .int .i64 v.a5, .int .i64 v.a6, .int .i64 v.a7, .int .i64 v.a8]
structure Ev where
  c0 : Int
  c1 : List UInt8
  sender : List UInt8
  kind : Int
  c4 : Bool
  key : List UInt8
  c6 : Int
  c7 : Int
  z8 : Nat
  c8 : List (List DV)
  z9 : Nat
  c9 : List (List DV)
  c10 : List UInt8
  n : Int
  c12 : Int
  c13 : Bool
  c14 : List UInt8
  allow : List (List UInt8)
  z16 : Nat
  c16 : List (List DV)
  lv : Lv
  c26 : Int
  c27 : List UInt8
  c28 : Int
def encEv (e : Ev) : List DV := [.int .i64 e.c0, .str e.c1, .str e.sender, .int .i64 e.kind, .bool e.c4, .str e.key, .int .i64 e.c6, .int .i64 e.c7, .sl e.z8 e.c8, .sl e.z9 e.c9, .str e.c10, .int .i64 e.n, .int .i64 e.c12, .bool e.c13, .str e.c14, .sl 1 (e.allow.map encS), .sl e.z16 e.c16,
  .sl 2 (e.lv.users.map encLU), .sl 2 (e.lv.kinds.map encLK), .int .i64 e.lv.a2, .int .i64 e.lv.a3, .int .i64 e.lv.a4, .int .i64 e.lv.a5, .int .i64 e.lv.a6, .int .i64 e.lv.a7, .int .i64 e.lv.a8, .int .i64 e.c26, .str e.c27, .int .i64 e.c28]

/-- the element at the place where a list is cut -/
theorem getD_cut {α : Type} (f : α → List DV) (pre : List α) (x : α) (rest : List α) : ((pre ++ x :: rest).map f).getD pre.length [] = f x := by
  simp [List.getD]
theorem lt_cut {α : Type} (pre : List α) (x : α) (rest : List α) : (pre.length : Int) < (pre ++ x :: rest).length := by
  simp
  omega
theorem nlt_cut {α : Type} (pre : List α) : ¬ ((pre.length : Int) < (pre ++ []).length) := by simp

def userL : List LU → List UInt8 → Int → Int
  | [], _, d => d
  | x :: l, u, d => if x.user = u then x.n else userL l u d
def ac26 : AC := (.seq (.ops [⟨(some 2), none, (.box (.t 0))⟩, ⟨(some 4), none, (.mv (.c (.int .i64 0)))⟩]) (.seq (.seq (.ops [⟨(some 7), none, (.fld 0 (.t 2))⟩, ⟨(some 8), none, (.ld false 1 (.t 7))⟩, ⟨(some 9), none, (.len (.t 8))⟩, ⟨(some 10), none, (.mv (.c (.int .i64 0)))⟩]) (.block 0 (.loop (.seq (.ops [⟨(some 11), none, (.bin .lss (.t 10) (.t 9))⟩]) (.seq (.cond (.t 11) .skip (.exit 0)) (.seq (.block 1 (.seq (.ops [⟨(some 12), none, (.ix 2 (.t 8) (.t 10))⟩, ⟨(some 13), none, (.ld true 2 (.t 12))⟩, ⟨(some 6), none, (.alloc [(.str []), (.int .i64 0)])⟩, ⟨none, none, (.sto 2 (.t 6) (.t 13))⟩]) (.seq (.ops [⟨(some 14), none, (.fld 0 (.t 6))⟩, ⟨(some 15), none, (.ld false 1 (.t 14))⟩, ⟨(some 16), none, (.mv (.t 1))⟩, ⟨(some 17), none, (.bin .eql (.t 15) (.t 16))⟩]) (.cond (.t 17) (.seq (.ops [⟨(some 18), none, (.fld 1 (.t 6))⟩, ⟨(some 19), none, (.ld false 1 (.t 18))⟩, ⟨(some 4), none, (.mv (.t 19))⟩]) .ret) .skip)))) (.ops [⟨(some 20), none, (.bin .add (.t 10) (.c (.int .i64 1)))⟩, ⟨(some 10), none, (.mv (.t 20))⟩]))))))) (.seq (.ops [⟨(some 21), none, (.fld 2 (.t 2))⟩, ⟨(some 22), none, (.ld false 1 (.t 21))⟩, ⟨(some 4), none, (.mv (.t 22))⟩]) .ret)))
theorem tr26 : Try.f26.body.bind (trCode Try.prog) = some (strip ac26) := by kernel_rfl
theorem spec26 (v : Lv) (u : List UInt8) : Spec Try.prog 26 [.fz (.agg (encLv v)), .fz (.str u)] (.fz (.int .i64 (userL v.users u v.a2))) := by
  refine spec_at (n := 21) (ars := [(.t 4)]) (ac := ac26) Try.func26 (by kernel_rfl) (by kernel_rfl) tr26 (by kernel_rfl) ?_
  unfold ac26
  obtain ⟨us, ks, c2, c3, c4, c5, c6, c7, c8⟩ := v
  simp -implicitDefEqProofs only [gt, stp, sndL, ev, evs, evO, mget, mdel, mmap, mset, klc, kl, klb, bindE, bindM, fzc, fze, fzb, blkFz, mkAgg, isFz, hdl, hdls, hdlV, hdlVs, seg, mdels, forgetE, forget, mdelO, mins, argE, argM, retV, eqP, eqPs, andO, dOps, dDT, dRun, dRunS, kResL, kOwR, pE, pM, subD, subL, subE, hE0, hSl, hAgg, hTup, hPf, hInt, hStr, hBool, hOth, msort, e_nf, e_S, e_put0, e_put, e_bind, e_mv, e_pickT, e_pickF, e_pickD, e_nt, e_ng, e_badd, e_bsub, e_bmul, e_bquo, e_brem, e_band, e_bor, e_bxor, e_beql, e_bneq, e_blss, e_bleq, e_bgtr, e_bgeq, e_sadd, e_seql, e_sneq, e_slss, e_sleq, e_sgtr, e_sgeq, e_shl, e_beq, e_B, e_eqa, e_hd, e_cells, e_blkK, e_box, e_vec, e_take1, e_take0, e_ldp1, e_ldp0, e_ldm, e_ldv, e_ldF1, e_ldF0, e_ck1, e_ck2, e_ck3, e_ck4, e_ck5, e_ck6, e_ck7, e_ck8, e_ck9, e_ck10, e_ck11, e_ck12, e_ck13, e_stm, e_stv, e_fldp, e_fldm, e_fldve, e_fldv1, e_fldv0, e_fldv3, e_fldv2, e_ixs', e_ixo, e_ixpp, e_ixpm, e_ixv1, e_ixv0, e_ixs, e_sub, e_subz, e_sube, e_subez, e_bnd0, e_bnd1, e_subZ0, e_subZ1, e_subs, e_len1, e_len2, e_len3, e_lens, e_src1, e_src2, e_src3, e_dst1, e_dst2, e_drop1, e_drop2, e_ow, e_app0, e_app1, e_ext, e_mm, e_conv, e_str, e_isn1, e_isn2, e_isn3, e_fill0, e_fill1, e_rows0, e_rows1, e_boxo, e_frz, e_frzO0, e_frzO1, e_frzA, e_frzV, e_frzVF, e_frzAF, e_fz, e_fn, e_gTT, e_gTF, e_gFT, e_gFF, e_gDT, e_gDF, e_gvu, e_cT, e_cF, e_cD, e_nd, e_seq0, e_seq1, e_seq2, e_blk0, e_blk1, e_blk2, e_loop0, e_loop1, e_loop2, e_op0, e_op1, e_opS0, e_opS1, e_res1, e_res2, e_retf, e_reto, e_qn, e_qr, e_qe, e_skip, e_ops, e_draw, e_sq, e_cnd, e_block, e_exit, e_rt, e_fzc, List.replicate, List.map_cons, List.map_nil, List.cons_append, List.nil_append, List.drop_succ_cons, List.drop_zero, List.drop_nil, List.take_succ_cons, List.take_zero, List.length_cons, List.length_nil, List.all_cons, List.all_nil, Nat.zero_add, Nat.add_zero, Bool.and_true, Bool.true_and, Bool.and_self, Bool.not_true, Bool.not_false, reduceCtorEq, if_true, if_false, true_implies, false_implies, implies_true, and_true, true_and, ne_eq, not_true_eq_false, not_false_eq_true, List.length_map, Nat.le_refl, Bool.false_eq_true, Bool.true_eq_false, eq_self_iff_true, decide_true, decide_false, List.getD_cons_zero, List.getD_cons_succ, Bool.decide_eq_true, Bool.or_true, Bool.or_false, Bool.true_or, Bool.false_or, true_or, or_true, false_or, or_false, and_false, false_and, Nat.reduceEqDiff, ↓reduceIte, Nat.reduceAdd, Nat.reduceMul, Nat.reduceSub, Nat.reduceLeDiff, Nat.reduceLT, Int.reduceLT, Int.reduceLE, Int.reduceEq, Int.reduceToNat, Int.reduceAdd, Int.reduceSub, Int.reduceNeg, Int.reduceBEq, Int.reduceBNe, Nat.reduceBEq, decide_eq_true_eq, decide_eq_false_iff_not, beq_iff_eq, beq_eq_false_iff_ne, bne_iff_ne, Bool.not_eq_true', Bool.not_eq_false', Int.natCast_nonneg, Int.toNat_natCast, Int.natCast_zero, encLv]
  intro hl
  refine loop_p (X := List LU × List LU) (fun n x => us = x.1 ++ x.2 ∧ n = x.2.length ∧ userL us u c2 = userL x.2 u c2) (fun x => [(10, .int .i64 x.1.length)]) (fun _ => []) [6, 11, 12, 13, 14, 15, 16, 17, 18, 19, 20] [6] us.length ([], us) ⟨rfl, rfl, rfl⟩ ?_ ?_
  · simp -implicitDefEqProofs only [gt, stp, sndL, ev, evs, evO, mget, mdel, mmap, mset, klc, kl, klb, bindE, bindM, fzc, fze, fzb, blkFz, mkAgg, isFz, hdl, hdls, hdlV, hdlVs, seg, mdels, forgetE, forget, mdelO, mins, argE, argM, retV, eqP, eqPs, andO, dOps, dDT, dRun, dRunS, kResL, kOwR, pE, pM, subD, subL, subE, hE0, hSl, hAgg, hTup, hPf, hInt, hStr, hBool, hOth, msort, e_nf, e_S, e_put0, e_put, e_bind, e_mv, e_pickT, e_pickF, e_pickD, e_nt, e_ng, e_badd, e_bsub, e_bmul, e_bquo, e_brem, e_band, e_bor, e_bxor, e_beql, e_bneq, e_blss, e_bleq, e_bgtr, e_bgeq, e_sadd, e_seql, e_sneq, e_slss, e_sleq, e_sgtr, e_sgeq, e_shl, e_beq, e_B, e_eqa, e_hd, e_cells, e_blkK, e_box, e_vec, e_take1, e_take0, e_ldp1, e_ldp0, e_ldm, e_ldv, e_ldF1, e_ldF0, e_ck1, e_ck2, e_ck3, e_ck4, e_ck5, e_ck6, e_ck7, e_ck8, e_ck9, e_ck10, e_ck11, e_ck12, e_ck13, e_stm, e_stv, e_fldp, e_fldm, e_fldve, e_fldv1, e_fldv0, e_fldv3, e_fldv2, e_ixs', e_ixo, e_ixpp, e_ixpm, e_ixv1, e_ixv0, e_ixs, e_sub, e_subz, e_sube, e_subez, e_bnd0, e_bnd1, e_subZ0, e_subZ1, e_subs, e_len1, e_len2, e_len3, e_lens, e_src1, e_src2, e_src3, e_dst1, e_dst2, e_drop1, e_drop2, e_ow, e_app0, e_app1, e_ext, e_mm, e_conv, e_str, e_isn1, e_isn2, e_isn3, e_fill0, e_fill1, e_rows0, e_rows1, e_boxo, e_frz, e_frzO0, e_frzO1, e_frzA, e_frzV, e_frzVF, e_frzAF, e_fz, e_fn, e_gTT, e_gTF, e_gFT, e_gFF, e_gDT, e_gDF, e_gvu, e_cT, e_cF, e_cD, e_nd, e_seq0, e_seq1, e_seq2, e_blk0, e_blk1, e_blk2, e_loop0, e_loop1, e_loop2, e_op0, e_op1, e_opS0, e_opS1, e_res1, e_res2, e_retf, e_reto, e_qn, e_qr, e_qe, e_skip, e_ops, e_draw, e_sq, e_cnd, e_block, e_exit, e_rt, e_fzc, List.replicate, List.map_cons, List.map_nil, List.cons_append, List.nil_append, List.drop_succ_cons, List.drop_zero, List.drop_nil, List.take_succ_cons, List.take_zero, List.length_cons, List.length_nil, List.all_cons, List.all_nil, Nat.zero_add, Nat.add_zero, Bool.and_true, Bool.true_and, Bool.and_self, Bool.not_true, Bool.not_false, reduceCtorEq, if_true, if_false, true_implies, false_implies, implies_true, and_true, true_and, ne_eq, not_true_eq_false, not_false_eq_true, List.length_map, Nat.le_refl, Bool.false_eq_true, Bool.true_eq_false, eq_self_iff_true, decide_true, decide_false, List.getD_cons_zero, List.getD_cons_succ, Bool.decide_eq_true, Bool.or_true, Bool.or_false, Bool.true_or, Bool.false_or, true_or, or_true, false_or, or_false, and_false, false_and, Nat.reduceEqDiff, ↓reduceIte, Nat.reduceAdd, Nat.reduceMul, Nat.reduceSub, Nat.reduceLeDiff, Nat.reduceLT, Int.reduceLT, Int.reduceLE, Int.reduceEq, Int.reduceToNat, Int.reduceAdd, Int.reduceSub, Int.reduceNeg, Int.reduceBEq, Int.reduceBNe, Nat.reduceBEq, decide_eq_true_eq, decide_eq_false_iff_not, beq_iff_eq, beq_eq_false_iff_ne, bne_iff_ne, Bool.not_eq_true', Bool.not_eq_false', Int.natCast_nonneg, Int.toNat_natCast, Int.natCast_zero]
  · intro n x hR
    obtain ⟨pre, rest⟩ := x
    obtain ⟨rfl, rfl, h3⟩ := hR
    cases rest with
    | nil =>
      have hlt := nlt_cut pre
      simp -implicitDefEqProofs only [gt, stp, sndL, ev, evs, evO, mget, mdel, mmap, mset, klc, kl, klb, bindE, bindM, fzc, fze, fzb, blkFz, mkAgg, isFz, hdl, hdls, hdlV, hdlVs, seg, mdels, forgetE, forget, mdelO, mins, argE, argM, retV, eqP, eqPs, andO, dOps, dDT, dRun, dRunS, kResL, kOwR, pE, pM, subD, subL, subE, hE0, hSl, hAgg, hTup, hPf, hInt, hStr, hBool, hOth, msort, e_nf, e_S, e_put0, e_put, e_bind, e_mv, e_pickT, e_pickF, e_pickD, e_nt, e_ng, e_badd, e_bsub, e_bmul, e_bquo, e_brem, e_band, e_bor, e_bxor, e_beql, e_bneq, e_blss, e_bleq, e_bgtr, e_bgeq, e_sadd, e_seql, e_sneq, e_slss, e_sleq, e_sgtr, e_sgeq, e_shl, e_beq, e_B, e_eqa, e_hd, e_cells, e_blkK, e_box, e_vec, e_take1, e_take0, e_ldp1, e_ldp0, e_ldm, e_ldv, e_ldF1, e_ldF0, e_ck1, e_ck2, e_ck3, e_ck4, e_ck5, e_ck6, e_ck7, e_ck8, e_ck9, e_ck10, e_ck11, e_ck12, e_ck13, e_stm, e_stv, e_fldp, e_fldm, e_fldve, e_fldv1, e_fldv0, e_fldv3, e_fldv2, e_ixs', e_ixo, e_ixpp, e_ixpm, e_ixv1, e_ixv0, e_ixs, e_sub, e_subz, e_sube, e_subez, e_bnd0, e_bnd1, e_subZ0, e_subZ1, e_subs, e_len1, e_len2, e_len3, e_lens, e_src1, e_src2, e_src3, e_dst1, e_dst2, e_drop1, e_drop2, e_ow, e_app0, e_app1, e_ext, e_mm, e_conv, e_str, e_isn1, e_isn2, e_isn3, e_fill0, e_fill1, e_rows0, e_rows1, e_boxo, e_frz, e_frzO0, e_frzO1, e_frzA, e_frzV, e_frzVF, e_frzAF, e_fz, e_fn, e_gTT, e_gTF, e_gFT, e_gFF, e_gDT, e_gDF, e_gvu, e_cT, e_cF, e_cD, e_nd, e_seq0, e_seq1, e_seq2, e_blk0, e_blk1, e_blk2, e_loop0, e_loop1, e_loop2, e_op0, e_op1, e_opS0, e_opS1, e_res1, e_res2, e_retf, e_reto, e_qn, e_qr, e_qe, e_skip, e_ops, e_draw, e_sq, e_cnd, e_block, e_exit, e_rt, e_fzc, List.replicate, List.map_cons, List.map_nil, List.cons_append, List.nil_append, List.drop_succ_cons, List.drop_zero, List.drop_nil, List.take_succ_cons, List.take_zero, List.length_cons, List.length_nil, List.all_cons, List.all_nil, Nat.zero_add, Nat.add_zero, Bool.and_true, Bool.true_and, Bool.and_self, Bool.not_true, Bool.not_false, reduceCtorEq, if_true, if_false, true_implies, false_implies, implies_true, and_true, true_and, ne_eq, not_true_eq_false, not_false_eq_true, List.length_map, Nat.le_refl, Bool.false_eq_true, Bool.true_eq_false, eq_self_iff_true, decide_true, decide_false, List.getD_cons_zero, List.getD_cons_succ, Bool.decide_eq_true, Bool.or_true, Bool.or_false, Bool.true_or, Bool.false_or, true_or, or_true, false_or, or_false, and_false, false_and, Nat.reduceEqDiff, ↓reduceIte, Nat.reduceAdd, Nat.reduceMul, Nat.reduceSub, Nat.reduceLeDiff, Nat.reduceLT, Int.reduceLT, Int.reduceLE, Int.reduceEq, Int.reduceToNat, Int.reduceAdd, Int.reduceSub, Int.reduceNeg, Int.reduceBEq, Int.reduceBNe, Nat.reduceBEq, decide_eq_true_eq, decide_eq_false_iff_not, beq_iff_eq, beq_eq_false_iff_ne, bne_iff_ne, Bool.not_eq_true', Bool.not_eq_false', Int.natCast_nonneg, Int.toNat_natCast, Int.natCast_zero, hlt, h3, userL]
    | cons x rest =>
      have hlt := lt_cut pre x rest
      have hx := getD_cut encLU pre x rest
      simp only [encLU] at hx
      have hw := wrap_len (n := pre.length) (m := (pre ++ x :: rest).length) (by simp) hl
      simp -implicitDefEqProofs only [gt, stp, sndL, ev, evs, evO, mget, mdel, mmap, mset, klc, kl, klb, bindE, bindM, fzc, fze, fzb, blkFz, mkAgg, isFz, hdl, hdls, hdlV, hdlVs, seg, mdels, forgetE, forget, mdelO, mins, argE, argM, retV, eqP, eqPs, andO, dOps, dDT, dRun, dRunS, kResL, kOwR, pE, pM, subD, subL, subE, hE0, hSl, hAgg, hTup, hPf, hInt, hStr, hBool, hOth, msort, e_nf, e_S, e_put0, e_put, e_bind, e_mv, e_pickT, e_pickF, e_pickD, e_nt, e_ng, e_badd, e_bsub, e_bmul, e_bquo, e_brem, e_band, e_bor, e_bxor, e_beql, e_bneq, e_blss, e_bleq, e_bgtr, e_bgeq, e_sadd, e_seql, e_sneq, e_slss, e_sleq, e_sgtr, e_sgeq, e_shl, e_beq, e_B, e_eqa, e_hd, e_cells, e_blkK, e_box, e_vec, e_take1, e_take0, e_ldp1, e_ldp0, e_ldm, e_ldv, e_ldF1, e_ldF0, e_ck1, e_ck2, e_ck3, e_ck4, e_ck5, e_ck6, e_ck7, e_ck8, e_ck9, e_ck10, e_ck11, e_ck12, e_ck13, e_stm, e_stv, e_fldp, e_fldm, e_fldve, e_fldv1, e_fldv0, e_fldv3, e_fldv2, e_ixs', e_ixo, e_ixpp, e_ixpm, e_ixv1, e_ixv0, e_ixs, e_sub, e_subz, e_sube, e_subez, e_bnd0, e_bnd1, e_subZ0, e_subZ1, e_subs, e_len1, e_len2, e_len3, e_lens, e_src1, e_src2, e_src3, e_dst1, e_dst2, e_drop1, e_drop2, e_ow, e_app0, e_app1, e_ext, e_mm, e_conv, e_str, e_isn1, e_isn2, e_isn3, e_fill0, e_fill1, e_rows0, e_rows1, e_boxo, e_frz, e_frzO0, e_frzO1, e_frzA, e_frzV, e_frzVF, e_frzAF, e_fz, e_fn, e_gTT, e_gTF, e_gFT, e_gFF, e_gDT, e_gDF, e_gvu, e_cT, e_cF, e_cD, e_nd, e_seq0, e_seq1, e_seq2, e_blk0, e_blk1, e_blk2, e_loop0, e_loop1, e_loop2, e_op0, e_op1, e_opS0, e_opS1, e_res1, e_res2, e_retf, e_reto, e_qn, e_qr, e_qe, e_skip, e_ops, e_draw, e_sq, e_cnd, e_block, e_exit, e_rt, e_fzc, List.replicate, List.map_cons, List.map_nil, List.cons_append, List.nil_append, List.drop_succ_cons, List.drop_zero, List.drop_nil, List.take_succ_cons, List.take_zero, List.length_cons, List.length_nil, List.all_cons, List.all_nil, Nat.zero_add, Nat.add_zero, Bool.and_true, Bool.true_and, Bool.and_self, Bool.not_true, Bool.not_false, reduceCtorEq, if_true, if_false, true_implies, false_implies, implies_true, and_true, true_and, ne_eq, not_true_eq_false, not_false_eq_true, List.length_map, Nat.le_refl, Bool.false_eq_true, Bool.true_eq_false, eq_self_iff_true, decide_true, decide_false, List.getD_cons_zero, List.getD_cons_succ, Bool.decide_eq_true, Bool.or_true, Bool.or_false, Bool.true_or, Bool.false_or, true_or, or_true, false_or, or_false, and_false, false_and, Nat.reduceEqDiff, ↓reduceIte, Nat.reduceAdd, Nat.reduceMul, Nat.reduceSub, Nat.reduceLeDiff, Nat.reduceLT, Int.reduceLT, Int.reduceLE, Int.reduceEq, Int.reduceToNat, Int.reduceAdd, Int.reduceSub, Int.reduceNeg, Int.reduceBEq, Int.reduceBNe, Nat.reduceBEq, decide_eq_true_eq, decide_eq_false_iff_not, beq_iff_eq, beq_eq_false_iff_ne, bne_iff_ne, Bool.not_eq_true', Bool.not_eq_false', Int.natCast_nonneg, Int.toNat_natCast, Int.natCast_zero, hlt, hx, h3, userL, hw]
      refine ⟨fun h => by simp [h], fun h => ⟨rest.length, [6, 11, 12, 13, 14, 15, 16, 17, 18, 19, 20], [6], by simp, (pre ++ [x], rest), ⟨by simp, rfl, by simp [h]⟩, ?_⟩⟩
      simp -implicitDefEqProofs only [gt, stp, sndL, ev, evs, evO, mget, mdel, mmap, mset, klc, kl, klb, bindE, bindM, fzc, fze, fzb, blkFz, mkAgg, isFz, hdl, hdls, hdlV, hdlVs, seg, mdels, forgetE, forget, mdelO, mins, argE, argM, retV, eqP, eqPs, andO, dOps, dDT, dRun, dRunS, kResL, kOwR, pE, pM, subD, subL, subE, hE0, hSl, hAgg, hTup, hPf, hInt, hStr, hBool, hOth, msort, e_nf, e_S, e_put0, e_put, e_bind, e_mv, e_pickT, e_pickF, e_pickD, e_nt, e_ng, e_badd, e_bsub, e_bmul, e_bquo, e_brem, e_band, e_bor, e_bxor, e_beql, e_bneq, e_blss, e_bleq, e_bgtr, e_bgeq, e_sadd, e_seql, e_sneq, e_slss, e_sleq, e_sgtr, e_sgeq, e_shl, e_beq, e_B, e_eqa, e_hd, e_cells, e_blkK, e_box, e_vec, e_take1, e_take0, e_ldp1, e_ldp0, e_ldm, e_ldv, e_ldF1, e_ldF0, e_ck1, e_ck2, e_ck3, e_ck4, e_ck5, e_ck6, e_ck7, e_ck8, e_ck9, e_ck10, e_ck11, e_ck12, e_ck13, e_stm, e_stv, e_fldp, e_fldm, e_fldve, e_fldv1, e_fldv0, e_fldv3, e_fldv2, e_ixs', e_ixo, e_ixpp, e_ixpm, e_ixv1, e_ixv0, e_ixs, e_sub, e_subz, e_sube, e_subez, e_bnd0, e_bnd1, e_subZ0, e_subZ1, e_subs, e_len1, e_len2, e_len3, e_lens, e_src1, e_src2, e_src3, e_dst1, e_dst2, e_drop1, e_drop2, e_ow, e_app0, e_app1, e_ext, e_mm, e_conv, e_str, e_isn1, e_isn2, e_isn3, e_fill0, e_fill1, e_rows0, e_rows1, e_boxo, e_frz, e_frzO0, e_frzO1, e_frzA, e_frzV, e_frzVF, e_frzAF, e_fz, e_fn, e_gTT, e_gTF, e_gFT, e_gFF, e_gDT, e_gDF, e_gvu, e_cT, e_cF, e_cD, e_nd, e_seq0, e_seq1, e_seq2, e_blk0, e_blk1, e_blk2, e_loop0, e_loop1, e_loop2, e_op0, e_op1, e_opS0, e_opS1, e_res1, e_res2, e_retf, e_reto, e_qn, e_qr, e_qe, e_skip, e_ops, e_draw, e_sq, e_cnd, e_block, e_exit, e_rt, e_fzc, List.replicate, List.map_cons, List.map_nil, List.cons_append, List.nil_append, List.drop_succ_cons, List.drop_zero, List.drop_nil, List.take_succ_cons, List.take_zero, List.length_cons, List.length_nil, List.all_cons, List.all_nil, Nat.zero_add, Nat.add_zero, Bool.and_true, Bool.true_and, Bool.and_self, Bool.not_true, Bool.not_false, reduceCtorEq, if_true, if_false, true_implies, false_implies, implies_true, and_true, true_and, ne_eq, not_true_eq_false, not_false_eq_true, List.length_map, Nat.le_refl, Bool.false_eq_true, Bool.true_eq_false, eq_self_iff_true, decide_true, decide_false, List.getD_cons_zero, List.getD_cons_succ, Bool.decide_eq_true, Bool.or_true, Bool.or_false, Bool.true_or, Bool.false_or, true_or, or_true, false_or, or_false, and_false, false_and, Nat.reduceEqDiff, ↓reduceIte, Nat.reduceAdd, Nat.reduceMul, Nat.reduceSub, Nat.reduceLeDiff, Nat.reduceLT, Int.reduceLT, Int.reduceLE, Int.reduceEq, Int.reduceToNat, Int.reduceAdd, Int.reduceSub, Int.reduceNeg, Int.reduceBEq, Int.reduceBNe, Nat.reduceBEq, decide_eq_true_eq, decide_eq_false_iff_not, beq_iff_eq, beq_eq_false_iff_ne, bne_iff_ne, Bool.not_eq_true', Bool.not_eq_false', Int.natCast_nonneg, Int.toNat_natCast, Int.natCast_zero]
      simp


end Go.Proofs.Ythackanfbemabaa.E
