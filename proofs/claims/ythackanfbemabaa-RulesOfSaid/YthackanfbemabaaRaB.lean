/-
  RaB: walks of functions of the program at data level.
-/
import Derived.Test.YthackanfbemabaaProg
import Derived.Test.YthackanfbemabaaEngZ
import Derived.Test.YthackanfbemabaaRaA
import Derived.KernelRfl
set_option linter.unusedVariables false
set_option linter.unusedSimpArgs false
namespace Go.Proofs.Ythackanfbemabaa.E
open Go
set_option maxHeartbeats 1000000
set_option maxRecDepth 100000
set_option linter.unusedSimpArgs false
set_option linter.unusedVariables false
attribute [local congr] c_wp c_ops c_op c_opS c_run c_runS c_dt c_seq c_blk c_loop c_S c_put c_bind c_mv c_pick c_nt c_ng c_bin c_binI c_binS c_beq c_B c_eqa c_hd c_cells c_blkK c_box c_vec c_take c_ld c_ldF c_cellsK c_st c_fld c_fldv c_ix c_ixp c_ixv c_ixs c_sub c_subs c_len c_lens c_src c_dst c_ow c_app c_ext c_mm c_conv c_str c_isn c_fill c_rows c_boxo c_frz c_frzO c_frzA c_frzV c_spec c_specO c_fz c_fn c_gv c_cond c_res1 c_resL c_ret c_qret
attribute [local irreducible] dwp

def memberL : List Ev → List UInt8 → Int
  | [], _ => 0
  | e :: l, u => if e.kind = 2 ∧ e.key = u then e.n else memberL l u
def ac38 : AC := (.seq (.ops [⟨(some 4), none, (.mv (.c (.int .i64 0)))⟩]) (.seq (.seq (.ops [⟨(some 6), none, (.mv (.t 0))⟩, ⟨(some 7), none, (.len (.t 6))⟩, ⟨(some 8), none, (.mv (.c (.int .i64 0)))⟩]) (.block 0 (.loop (.seq (.ops [⟨(some 9), none, (.bin .lss (.t 8) (.t 7))⟩]) (.seq (.cond (.t 9) .skip (.exit 0)) (.seq (.block 1 (.seq (.ops [⟨(some 10), none, (.mv (.t 8))⟩, ⟨(some 5), none, (.mv (.t 10))⟩]) (.seq (.ops [⟨(some 11), none, (.mv (.t 0))⟩, ⟨(some 12), none, (.mv (.t 5))⟩, ⟨(some 13), none, (.ix 29 (.t 11) (.t 12))⟩, ⟨(some 14), none, (.fld 3 (.t 13))⟩, ⟨(some 15), none, (.ld false 1 (.t 14))⟩, ⟨(some 16), none, (.bin .eql (.t 15) (.c (.int .i64 2)))⟩, ⟨(some 17), none, (.mv (.t 16))⟩, ⟨(some 18), (some (17, true)), (.mv (.t 0))⟩, ⟨(some 19), (some (17, true)), (.mv (.t 5))⟩, ⟨(some 20), (some (17, true)), (.ix 29 (.t 18) (.t 19))⟩, ⟨(some 21), (some (17, true)), (.fld 5 (.t 20))⟩, ⟨(some 22), (some (17, true)), (.ld false 1 (.t 21))⟩, ⟨(some 23), (some (17, true)), (.mv (.t 1))⟩, ⟨(some 24), (some (17, true)), (.bin .eql (.t 22) (.t 23))⟩, ⟨(some 25), none, (.pick (.t 17) (.t 24) (.c (.bool false)))⟩]) (.cond (.t 25) (.seq (.ops [⟨(some 26), none, (.mv (.t 0))⟩, ⟨(some 27), none, (.mv (.t 5))⟩, ⟨(some 28), none, (.ix 29 (.t 26) (.t 27))⟩, ⟨(some 29), none, (.fld 10 (.t 28))⟩, ⟨(some 30), none, (.fld 1 (.t 29))⟩, ⟨(some 31), none, (.ld false 1 (.t 30))⟩, ⟨(some 4), none, (.mv (.t 31))⟩]) .ret) .skip)))) (.ops [⟨(some 32), none, (.bin .add (.t 8) (.c (.int .i64 1)))⟩, ⟨(some 8), none, (.mv (.t 32))⟩]))))))) (.seq (.ops [⟨(some 4), none, (.mv (.c (.int .i64 0)))⟩]) .ret)))
theorem tr38 : Try.f38.body.bind (trCode Try.prog) = some (strip ac38) := by kernel_rfl
theorem spec38 (es : List Ev) (u : List UInt8) : Spec Try.prog 38 [.fz (.sl 29 (es.map encEv)), .fz (.str u)] (.fz (.int .i64 (memberL es u))) := by
  refine spec_at (n := 31) (ars := [(.t 4)]) (ac := ac38) Try.func38 (by kernel_rfl) (by kernel_rfl) tr38 (by kernel_rfl) ?_
  unfold ac38
  simp -implicitDefEqProofs only [gt, stp, sndL, ev, evs, evO, mget, mdel, mmap, mset, klc, kl, klb, bindE, bindM, fzc, fze, fzb, blkFz, mkAgg, isFz, hdl, hdls, hdlV, hdlVs, seg, mdels, forgetE, forget, mins, argE, argM, retV, eqP, eqPs, andO, dOps, dDT, dRun, dRunS, kResL, kOwR, pE, pM, subD, subL, subE, hE0, hSl, hAgg, hTup, hPf, hInt, hStr, hBool, hOth, msort, cellOK, SE, SL, e_nf, reduceCtorEq, ↓reduceIte, Nat.reduceEqDiff, Nat.reduceAdd, Nat.reduceMul, Nat.reduceSub, Nat.reduceLeDiff, Nat.reduceLT, Int.reduceLT, Int.reduceLE, Int.reduceEq, Int.reduceToNat, Int.reduceAdd, Int.reduceSub, Int.reduceNeg, Int.reduceBEq, Int.reduceBNe, Nat.reduceBEq, Int.cast_ofNat_Int, decide_true, decide_false, ne_eq, eq_self_iff_true, beq_eq_false_iff_ne, bne_iff_ne, List.replicate]
  intro hl
  refine loop_p (X := List Ev × List Ev) (fun n x => es = x.1 ++ x.2 ∧ n = x.2.length ∧ memberL es u = memberL x.2 u) (fun x => [(8, .int .i64 x.1.length)]) (fun _ => []) [4, 5, 9, 10, 11, 12, 13, 14, 15, 16, 17, 18, 19, 20, 21, 22, 23, 24, 25, 26, 27, 28, 29, 30, 31, 32] [] (es.length) (([], es)) ⟨rfl, rfl, rfl⟩ ?_ ?_
  · simp -implicitDefEqProofs only [gt, stp, sndL, ev, evs, evO, mget, mdel, mmap, mset, klc, kl, klb, bindE, bindM, fzc, fze, fzb, blkFz, mkAgg, isFz, hdl, hdls, hdlV, hdlVs, seg, mdels, forgetE, forget, mins, argE, argM, retV, eqP, eqPs, andO, dOps, dDT, dRun, dRunS, kResL, kOwR, pE, pM, subD, subL, subE, hE0, hSl, hAgg, hTup, hPf, hInt, hStr, hBool, hOth, msort, cellOK, SE, SL, e_nf, reduceCtorEq, ↓reduceIte, Nat.reduceEqDiff, Nat.reduceAdd, Nat.reduceMul, Nat.reduceSub, Nat.reduceLeDiff, Nat.reduceLT, Int.reduceLT, Int.reduceLE, Int.reduceEq, Int.reduceToNat, Int.reduceAdd, Int.reduceSub, Int.reduceNeg, Int.reduceBEq, Int.reduceBNe, Nat.reduceBEq, Int.cast_ofNat_Int, decide_true, decide_false, ne_eq, eq_self_iff_true, beq_eq_false_iff_ne, bne_iff_ne, List.replicate]
  · intro n x hR
    obtain ⟨pre, rest⟩ := x
    obtain ⟨rfl, rfl, h3⟩ := hR
    cases rest with
    | nil =>
      have hlt := nlt_cut pre
      simp -implicitDefEqProofs only [gt, stp, sndL, ev, evs, evO, mget, mdel, mmap, mset, klc, kl, klb, bindE, bindM, fzc, fze, fzb, blkFz, mkAgg, isFz, hdl, hdls, hdlV, hdlVs, seg, mdels, forgetE, forget, mins, argE, argM, retV, eqP, eqPs, andO, dOps, dDT, dRun, dRunS, kResL, kOwR, pE, pM, subD, subL, subE, hE0, hSl, hAgg, hTup, hPf, hInt, hStr, hBool, hOth, msort, cellOK, SE, SL, e_nf, reduceCtorEq, ↓reduceIte, Nat.reduceEqDiff, Nat.reduceAdd, Nat.reduceMul, Nat.reduceSub, Nat.reduceLeDiff, Nat.reduceLT, Int.reduceLT, Int.reduceLE, Int.reduceEq, Int.reduceToNat, Int.reduceAdd, Int.reduceSub, Int.reduceNeg, Int.reduceBEq, Int.reduceBNe, Nat.reduceBEq, Int.cast_ofNat_Int, decide_true, decide_false, ne_eq, eq_self_iff_true, beq_eq_false_iff_ne, bne_iff_ne, List.replicate, hlt, h3, memberL]
    | cons x rest =>
      have hlt := lt_cut pre x rest
      have hx := getD_cut encEv pre x rest
      simp only [encEv] at hx
      have hw := wrap_len (n := pre.length) (m := (pre ++ x :: rest).length) (by simp) hl
      by_cases h1 : x.kind = 2
      · by_cases h2 : x.key = u
        · simp -implicitDefEqProofs only [gt, stp, sndL, ev, evs, evO, mget, mdel, mmap, mset, klc, kl, klb, bindE, bindM, fzc, fze, fzb, blkFz, mkAgg, isFz, hdl, hdls, hdlV, hdlVs, seg, mdels, forgetE, forget, mins, argE, argM, retV, eqP, eqPs, andO, dOps, dDT, dRun, dRunS, kResL, kOwR, pE, pM, subD, subL, subE, hE0, hSl, hAgg, hTup, hPf, hInt, hStr, hBool, hOth, msort, cellOK, SE, SL, e_nf, reduceCtorEq, ↓reduceIte, Nat.reduceEqDiff, Nat.reduceAdd, Nat.reduceMul, Nat.reduceSub, Nat.reduceLeDiff, Nat.reduceLT, Int.reduceLT, Int.reduceLE, Int.reduceEq, Int.reduceToNat, Int.reduceAdd, Int.reduceSub, Int.reduceNeg, Int.reduceBEq, Int.reduceBNe, Nat.reduceBEq, Int.cast_ofNat_Int, decide_true, decide_false, ne_eq, eq_self_iff_true, beq_eq_false_iff_ne, bne_iff_ne, List.replicate, hlt, hx, h3, memberL, hw, h1, h2]
        · simp -implicitDefEqProofs only [gt, stp, sndL, ev, evs, evO, mget, mdel, mmap, mset, klc, kl, klb, bindE, bindM, fzc, fze, fzb, blkFz, mkAgg, isFz, hdl, hdls, hdlV, hdlVs, seg, mdels, forgetE, forget, mins, argE, argM, retV, eqP, eqPs, andO, dOps, dDT, dRun, dRunS, kResL, kOwR, pE, pM, subD, subL, subE, hE0, hSl, hAgg, hTup, hPf, hInt, hStr, hBool, hOth, msort, cellOK, SE, SL, e_nf, reduceCtorEq, ↓reduceIte, Nat.reduceEqDiff, Nat.reduceAdd, Nat.reduceMul, Nat.reduceSub, Nat.reduceLeDiff, Nat.reduceLT, Int.reduceLT, Int.reduceLE, Int.reduceEq, Int.reduceToNat, Int.reduceAdd, Int.reduceSub, Int.reduceNeg, Int.reduceBEq, Int.reduceBNe, Nat.reduceBEq, Int.cast_ofNat_Int, decide_true, decide_false, ne_eq, eq_self_iff_true, beq_eq_false_iff_ne, bne_iff_ne, List.replicate, hlt, hx, h3, memberL, hw, h1, h2]
          refine ⟨rest.length, [4, 5, 9, 10, 11, 12, 13, 14, 15, 16, 17, 18, 19, 20, 21, 22, 23, 24, 25, 26, 27, 28, 29, 30, 31, 32], [], by simp, (pre ++ [x], rest), ⟨by simp, rfl, by simp [h1, h2]⟩, ?_⟩
          simp -implicitDefEqProofs only [gt, stp, sndL, ev, evs, evO, mget, mdel, mmap, mset, klc, kl, klb, bindE, bindM, fzc, fze, fzb, blkFz, mkAgg, isFz, hdl, hdls, hdlV, hdlVs, seg, mdels, forgetE, forget, mins, argE, argM, retV, eqP, eqPs, andO, dOps, dDT, dRun, dRunS, kResL, kOwR, pE, pM, subD, subL, subE, hE0, hSl, hAgg, hTup, hPf, hInt, hStr, hBool, hOth, msort, cellOK, SE, SL, e_nf, reduceCtorEq, ↓reduceIte, Nat.reduceEqDiff, Nat.reduceAdd, Nat.reduceMul, Nat.reduceSub, Nat.reduceLeDiff, Nat.reduceLT, Int.reduceLT, Int.reduceLE, Int.reduceEq, Int.reduceToNat, Int.reduceAdd, Int.reduceSub, Int.reduceNeg, Int.reduceBEq, Int.reduceBNe, Nat.reduceBEq, Int.cast_ofNat_Int, decide_true, decide_false, ne_eq, eq_self_iff_true, beq_eq_false_iff_ne, bne_iff_ne, List.replicate]
          simp
      · simp -implicitDefEqProofs only [gt, stp, sndL, ev, evs, evO, mget, mdel, mmap, mset, klc, kl, klb, bindE, bindM, fzc, fze, fzb, blkFz, mkAgg, isFz, hdl, hdls, hdlV, hdlVs, seg, mdels, forgetE, forget, mins, argE, argM, retV, eqP, eqPs, andO, dOps, dDT, dRun, dRunS, kResL, kOwR, pE, pM, subD, subL, subE, hE0, hSl, hAgg, hTup, hPf, hInt, hStr, hBool, hOth, msort, cellOK, SE, SL, e_nf, reduceCtorEq, ↓reduceIte, Nat.reduceEqDiff, Nat.reduceAdd, Nat.reduceMul, Nat.reduceSub, Nat.reduceLeDiff, Nat.reduceLT, Int.reduceLT, Int.reduceLE, Int.reduceEq, Int.reduceToNat, Int.reduceAdd, Int.reduceSub, Int.reduceNeg, Int.reduceBEq, Int.reduceBNe, Nat.reduceBEq, Int.cast_ofNat_Int, decide_true, decide_false, ne_eq, eq_self_iff_true, beq_eq_false_iff_ne, bne_iff_ne, List.replicate, hlt, hx, h3, memberL, hw, h1]
        refine ⟨rest.length, [4, 5, 9, 10, 11, 12, 13, 14, 15, 16, 17, 18, 19, 20, 21, 22, 23, 24, 25, 26, 27, 28, 29, 30, 31, 32], [], by simp, (pre ++ [x], rest), ⟨by simp, rfl, by simp [h1]⟩, ?_⟩
        simp -implicitDefEqProofs only [gt, stp, sndL, ev, evs, evO, mget, mdel, mmap, mset, klc, kl, klb, bindE, bindM, fzc, fze, fzb, blkFz, mkAgg, isFz, hdl, hdls, hdlV, hdlVs, seg, mdels, forgetE, forget, mins, argE, argM, retV, eqP, eqPs, andO, dOps, dDT, dRun, dRunS, kResL, kOwR, pE, pM, subD, subL, subE, hE0, hSl, hAgg, hTup, hPf, hInt, hStr, hBool, hOth, msort, cellOK, SE, SL, e_nf, reduceCtorEq, ↓reduceIte, Nat.reduceEqDiff, Nat.reduceAdd, Nat.reduceMul, Nat.reduceSub, Nat.reduceLeDiff, Nat.reduceLT, Int.reduceLT, Int.reduceLE, Int.reduceEq, Int.reduceToNat, Int.reduceAdd, Int.reduceSub, Int.reduceNeg, Int.reduceBEq, Int.reduceBNe, Nat.reduceBEq, Int.cast_ofNat_Int, decide_true, decide_false, ne_eq, eq_self_iff_true, beq_eq_false_iff_ne, bne_iff_ne, List.replicate]
        simp

def ac53 : AC := (.seq (.ops [⟨(some 2), none, (.box (.t 0))⟩, ⟨(some 3), none, (.mv (.c (.bool false)))⟩]) (.seq (.ops [⟨(some 4), none, (.fld 3 (.t 2))⟩, ⟨(some 5), none, (.ld false 1 (.t 4))⟩, ⟨(some 6), none, (.ld false 1 (.t 1))⟩, ⟨(some 7), none, (.bin .eql (.t 5) (.t 6))⟩, ⟨(some 3), none, (.mv (.t 7))⟩]) .ret))
theorem tr53 : Try.f53.body.bind (trCode Try.prog) = some (strip ac53) := by kernel_rfl
theorem spec53 (e : Ev) (k : Int) : Spec Try.prog 53 [.fz (.agg (encEv e)), .fz (.pf [.int .i64 k])] (.fz (.bool (decide (e.kind = k)))) := by
  refine spec_at (n := 6) (ars := [(.t 3)]) (ac := ac53) Try.func53 (by kernel_rfl) (by kernel_rfl) tr53 (by kernel_rfl) ?_
  unfold ac53
  simp -implicitDefEqProofs only [gt, stp, sndL, ev, evs, evO, mget, mdel, mmap, mset, klc, kl, klb, bindE, bindM, fzc, fze, fzb, blkFz, mkAgg, isFz, hdl, hdls, hdlV, hdlVs, seg, mdels, forgetE, forget, mins, argE, argM, retV, eqP, eqPs, andO, dOps, dDT, dRun, dRunS, kResL, kOwR, pE, pM, subD, subL, subE, hE0, hSl, hAgg, hTup, hPf, hInt, hStr, hBool, hOth, msort, cellOK, SE, SL, e_nf, reduceCtorEq, ↓reduceIte, Nat.reduceEqDiff, Nat.reduceAdd, Nat.reduceMul, Nat.reduceSub, Nat.reduceLeDiff, Nat.reduceLT, Int.reduceLT, Int.reduceLE, Int.reduceEq, Int.reduceToNat, Int.reduceAdd, Int.reduceSub, Int.reduceNeg, Int.reduceBEq, Int.reduceBNe, Nat.reduceBEq, Int.cast_ofNat_Int, decide_true, decide_false, ne_eq, eq_self_iff_true, beq_eq_false_iff_ne, bne_iff_ne, List.replicate, encEv]


def idxL : List Ev → Int → Nat → Int
  | [], _, _ => -1
  | e :: l, k, i => if e.kind = k then i else idxL l k (i + 1)
def ac52 : AC := (.seq (.ops [⟨(some 4), none, (.mv (.c (.int .i64 0)))⟩]) (.seq (.seq (.ops [⟨(some 6), none, (.mv (.t 0))⟩, ⟨(some 7), none, (.len (.t 6))⟩, ⟨(some 8), none, (.mv (.c (.int .i64 0)))⟩]) (.block 0 (.loop (.seq (.ops [⟨(some 9), none, (.bin .lss (.t 8) (.t 7))⟩]) (.seq (.cond (.t 9) .skip (.exit 0)) (.seq (.block 1 (.seq (.ops [⟨(some 10), none, (.mv (.t 8))⟩, ⟨(some 5), none, (.mv (.t 10))⟩]) (.seq (.ops [⟨(some 11), none, (.mv (.t 1))⟩, ⟨(some 12), none, (.mv (.t 0))⟩, ⟨(some 13), none, (.mv (.t 5))⟩, ⟨(some 14), none, (.ix 29 (.t 12) (.t 13))⟩, ⟨(some 15), none, (.ld true 29 (.t 14))⟩, ⟨(some 16), none, (.callv (.t 11) [(.t 15)])⟩]) (.cond (.t 16) (.seq (.ops [⟨(some 17), none, (.mv (.t 5))⟩, ⟨(some 4), none, (.mv (.t 17))⟩]) .ret) .skip)))) (.ops [⟨(some 18), none, (.bin .add (.t 8) (.c (.int .i64 1)))⟩, ⟨(some 8), none, (.mv (.t 18))⟩]))))))) (.seq (.ops [⟨(some 4), none, (.mv (.c (.int .i64 (-1))))⟩]) .ret)))
theorem tr52 : Try.f52.body.bind (trCode Try.prog) = some (strip ac52) := by kernel_rfl
theorem spec52 (es : List Ev) (k : Int) : Spec Try.prog 52 [.fz (.sl 29 (es.map encEv)), .fz (.fn 53 [.pf [.int .i64 k]])] (.fz (.int .i64 (idxL es k 0))) := by
  refine spec_at (n := 17) (ars := [(.t 4)]) (ac := ac52) Try.func52 (by kernel_rfl) (by kernel_rfl) tr52 (by kernel_rfl) ?_
  unfold ac52
  simp -implicitDefEqProofs only [gt, stp, sndL, ev, evs, evO, mget, mdel, mmap, mset, klc, kl, klb, bindE, bindM, fzc, fze, fzb, blkFz, mkAgg, isFz, hdl, hdls, hdlV, hdlVs, seg, mdels, forgetE, forget, mins, argE, argM, retV, eqP, eqPs, andO, dOps, dDT, dRun, dRunS, kResL, kOwR, pE, pM, subD, subL, subE, hE0, hSl, hAgg, hTup, hPf, hInt, hStr, hBool, hOth, msort, cellOK, SE, SL, e_nf, reduceCtorEq, ↓reduceIte, Nat.reduceEqDiff, Nat.reduceAdd, Nat.reduceMul, Nat.reduceSub, Nat.reduceLeDiff, Nat.reduceLT, Int.reduceLT, Int.reduceLE, Int.reduceEq, Int.reduceToNat, Int.reduceAdd, Int.reduceSub, Int.reduceNeg, Int.reduceBEq, Int.reduceBNe, Nat.reduceBEq, Int.cast_ofNat_Int, decide_true, decide_false, ne_eq, eq_self_iff_true, beq_eq_false_iff_ne, bne_iff_ne, List.replicate]
  intro hl
  refine loop_p (X := List Ev × List Ev) (fun n x => es = x.1 ++ x.2 ∧ n = x.2.length ∧ idxL es k 0 = idxL x.2 k x.1.length) (fun x => [(8, .int .i64 x.1.length)]) (fun _ => []) [4, 5, 9, 10, 11, 12, 13, 14, 15, 16, 17, 18] [] (es.length) (([], es)) ⟨rfl, rfl, rfl⟩ ?_ ?_
  · simp -implicitDefEqProofs only [gt, stp, sndL, ev, evs, evO, mget, mdel, mmap, mset, klc, kl, klb, bindE, bindM, fzc, fze, fzb, blkFz, mkAgg, isFz, hdl, hdls, hdlV, hdlVs, seg, mdels, forgetE, forget, mins, argE, argM, retV, eqP, eqPs, andO, dOps, dDT, dRun, dRunS, kResL, kOwR, pE, pM, subD, subL, subE, hE0, hSl, hAgg, hTup, hPf, hInt, hStr, hBool, hOth, msort, cellOK, SE, SL, e_nf, reduceCtorEq, ↓reduceIte, Nat.reduceEqDiff, Nat.reduceAdd, Nat.reduceMul, Nat.reduceSub, Nat.reduceLeDiff, Nat.reduceLT, Int.reduceLT, Int.reduceLE, Int.reduceEq, Int.reduceToNat, Int.reduceAdd, Int.reduceSub, Int.reduceNeg, Int.reduceBEq, Int.reduceBNe, Nat.reduceBEq, Int.cast_ofNat_Int, decide_true, decide_false, ne_eq, eq_self_iff_true, beq_eq_false_iff_ne, bne_iff_ne, List.replicate]
  · intro n x hR
    obtain ⟨pre, rest⟩ := x
    obtain ⟨rfl, rfl, h3⟩ := hR
    cases rest with
    | nil =>
      have hlt := nlt_cut pre
      simp -implicitDefEqProofs only [gt, stp, sndL, ev, evs, evO, mget, mdel, mmap, mset, klc, kl, klb, bindE, bindM, fzc, fze, fzb, blkFz, mkAgg, isFz, hdl, hdls, hdlV, hdlVs, seg, mdels, forgetE, forget, mins, argE, argM, retV, eqP, eqPs, andO, dOps, dDT, dRun, dRunS, kResL, kOwR, pE, pM, subD, subL, subE, hE0, hSl, hAgg, hTup, hPf, hInt, hStr, hBool, hOth, msort, cellOK, SE, SL, e_nf, reduceCtorEq, ↓reduceIte, Nat.reduceEqDiff, Nat.reduceAdd, Nat.reduceMul, Nat.reduceSub, Nat.reduceLeDiff, Nat.reduceLT, Int.reduceLT, Int.reduceLE, Int.reduceEq, Int.reduceToNat, Int.reduceAdd, Int.reduceSub, Int.reduceNeg, Int.reduceBEq, Int.reduceBNe, Nat.reduceBEq, Int.cast_ofNat_Int, decide_true, decide_false, ne_eq, eq_self_iff_true, beq_eq_false_iff_ne, bne_iff_ne, List.replicate, hlt, h3, idxL]
    | cons x rest =>
      have hlt := lt_cut pre x rest
      have hx := getD_cut encEv pre x rest
      have hx' : (List.map encEv (pre ++ x :: rest)).getD pre.length [] = encEv x := hx
      simp only [encEv] at hx
      have hw := wrap_len (n := pre.length) (m := (pre ++ x :: rest).length) (by simp) hl
      simp -implicitDefEqProofs only [gt, stp, sndL, ev, evs, evO, mget, mdel, mmap, mset, klc, kl, klb, bindE, bindM, fzc, fze, fzb, blkFz, mkAgg, isFz, hdl, hdls, hdlV, hdlVs, seg, mdels, forgetE, forget, mins, argE, argM, retV, eqP, eqPs, andO, dOps, dDT, dRun, dRunS, kResL, kOwR, pE, pM, subD, subL, subE, hE0, hSl, hAgg, hTup, hPf, hInt, hStr, hBool, hOth, msort, cellOK, SE, SL, e_nf, reduceCtorEq, ↓reduceIte, Nat.reduceEqDiff, Nat.reduceAdd, Nat.reduceMul, Nat.reduceSub, Nat.reduceLeDiff, Nat.reduceLT, Int.reduceLT, Int.reduceLE, Int.reduceEq, Int.reduceToNat, Int.reduceAdd, Int.reduceSub, Int.reduceNeg, Int.reduceBEq, Int.reduceBNe, Nat.reduceBEq, Int.cast_ofNat_Int, decide_true, decide_false, ne_eq, eq_self_iff_true, beq_eq_false_iff_ne, bne_iff_ne, List.replicate, hlt, hx, h3, idxL, hw]
      refine call_fz (spec53 x k) rfl ?_
      by_cases h1 : x.kind = k
      · simp -implicitDefEqProofs only [gt, stp, sndL, ev, evs, evO, mget, mdel, mmap, mset, klc, kl, klb, bindE, bindM, fzc, fze, fzb, blkFz, mkAgg, isFz, hdl, hdls, hdlV, hdlVs, seg, mdels, forgetE, forget, mins, argE, argM, retV, eqP, eqPs, andO, dOps, dDT, dRun, dRunS, kResL, kOwR, pE, pM, subD, subL, subE, hE0, hSl, hAgg, hTup, hPf, hInt, hStr, hBool, hOth, msort, cellOK, SE, SL, e_nf, reduceCtorEq, ↓reduceIte, Nat.reduceEqDiff, Nat.reduceAdd, Nat.reduceMul, Nat.reduceSub, Nat.reduceLeDiff, Nat.reduceLT, Int.reduceLT, Int.reduceLE, Int.reduceEq, Int.reduceToNat, Int.reduceAdd, Int.reduceSub, Int.reduceNeg, Int.reduceBEq, Int.reduceBNe, Nat.reduceBEq, Int.cast_ofNat_Int, decide_true, decide_false, ne_eq, eq_self_iff_true, beq_eq_false_iff_ne, bne_iff_ne, List.replicate, h1]
      · simp -implicitDefEqProofs only [gt, stp, sndL, ev, evs, evO, mget, mdel, mmap, mset, klc, kl, klb, bindE, bindM, fzc, fze, fzb, blkFz, mkAgg, isFz, hdl, hdls, hdlV, hdlVs, seg, mdels, forgetE, forget, mins, argE, argM, retV, eqP, eqPs, andO, dOps, dDT, dRun, dRunS, kResL, kOwR, pE, pM, subD, subL, subE, hE0, hSl, hAgg, hTup, hPf, hInt, hStr, hBool, hOth, msort, cellOK, SE, SL, e_nf, reduceCtorEq, ↓reduceIte, Nat.reduceEqDiff, Nat.reduceAdd, Nat.reduceMul, Nat.reduceSub, Nat.reduceLeDiff, Nat.reduceLT, Int.reduceLT, Int.reduceLE, Int.reduceEq, Int.reduceToNat, Int.reduceAdd, Int.reduceSub, Int.reduceNeg, Int.reduceBEq, Int.reduceBNe, Nat.reduceBEq, Int.cast_ofNat_Int, decide_true, decide_false, ne_eq, eq_self_iff_true, beq_eq_false_iff_ne, bne_iff_ne, List.replicate, h1, hw]
        refine ⟨rest.length, [4, 5, 9, 10, 11, 12, 13, 14, 15, 16, 17, 18], [], by simp, (pre ++ [x], rest), ⟨by simp, rfl, by simp [h1]⟩, ?_⟩
        simp -implicitDefEqProofs only [gt, stp, sndL, ev, evs, evO, mget, mdel, mmap, mset, klc, kl, klb, bindE, bindM, fzc, fze, fzb, blkFz, mkAgg, isFz, hdl, hdls, hdlV, hdlVs, seg, mdels, forgetE, forget, mins, argE, argM, retV, eqP, eqPs, andO, dOps, dDT, dRun, dRunS, kResL, kOwR, pE, pM, subD, subL, subE, hE0, hSl, hAgg, hTup, hPf, hInt, hStr, hBool, hOth, msort, cellOK, SE, SL, e_nf, reduceCtorEq, ↓reduceIte, Nat.reduceEqDiff, Nat.reduceAdd, Nat.reduceMul, Nat.reduceSub, Nat.reduceLeDiff, Nat.reduceLT, Int.reduceLT, Int.reduceLE, Int.reduceEq, Int.reduceToNat, Int.reduceAdd, Int.reduceSub, Int.reduceNeg, Int.reduceBEq, Int.reduceBNe, Nat.reduceBEq, Int.cast_ofNat_Int, decide_true, decide_false, ne_eq, eq_self_iff_true, beq_eq_false_iff_ne, bne_iff_ne, List.replicate]
        simp

def ac43 : AC := (.seq (.ops [⟨(some 3), none, (.box (.t 1))⟩, ⟨(some 4), none, (.mv (.c (.int .i64 0)))⟩]) (.seq (.ops [⟨(some 5), none, (.mv (.t 0))⟩, ⟨(some 6), none, (.mkfn 53 [(.t 3)])⟩, ⟨(some 7), none, (.call false 52 [(.t 5), (.t 6)])⟩, ⟨(some 4), none, (.mv (.t 7))⟩]) .ret))
theorem tr43 : Try.f43.body.bind (trCode Try.prog) = some (strip ac43) := by kernel_rfl
theorem spec43 (es : List Ev) (k : Int) : Spec Try.prog 43 [.fz (.sl 29 (es.map encEv)), .fz (.int .i64 k)] (.fz (.int .i64 (idxL es k 0))) := by
  refine spec_at (n := 6) (ars := [(.t 4)]) (ac := ac43) Try.func43 (by kernel_rfl) (by kernel_rfl) tr43 (by kernel_rfl) ?_
  unfold ac43
  simp -implicitDefEqProofs only [gt, stp, sndL, ev, evs, evO, mget, mdel, mmap, mset, klc, kl, klb, bindE, bindM, fzc, fze, fzb, blkFz, mkAgg, isFz, hdl, hdls, hdlV, hdlVs, seg, mdels, forgetE, forget, mins, argE, argM, retV, eqP, eqPs, andO, dOps, dDT, dRun, dRunS, kResL, kOwR, pE, pM, subD, subL, subE, hE0, hSl, hAgg, hTup, hPf, hInt, hStr, hBool, hOth, msort, cellOK, SE, SL, e_nf, reduceCtorEq, ↓reduceIte, Nat.reduceEqDiff, Nat.reduceAdd, Nat.reduceMul, Nat.reduceSub, Nat.reduceLeDiff, Nat.reduceLT, Int.reduceLT, Int.reduceLE, Int.reduceEq, Int.reduceToNat, Int.reduceAdd, Int.reduceSub, Int.reduceNeg, Int.reduceBEq, Int.reduceBNe, Nat.reduceBEq, Int.cast_ofNat_Int, decide_true, decide_false, ne_eq, eq_self_iff_true, beq_eq_false_iff_ne, bne_iff_ne, List.replicate]
  refine call_fz (spec52 es k) rfl ?_
  simp -implicitDefEqProofs only [gt, stp, sndL, ev, evs, evO, mget, mdel, mmap, mset, klc, kl, klb, bindE, bindM, fzc, fze, fzb, blkFz, mkAgg, isFz, hdl, hdls, hdlV, hdlVs, seg, mdels, forgetE, forget, mins, argE, argM, retV, eqP, eqPs, andO, dOps, dDT, dRun, dRunS, kResL, kOwR, pE, pM, subD, subL, subE, hE0, hSl, hAgg, hTup, hPf, hInt, hStr, hBool, hOth, msort, cellOK, SE, SL, e_nf, reduceCtorEq, ↓reduceIte, Nat.reduceEqDiff, Nat.reduceAdd, Nat.reduceMul, Nat.reduceSub, Nat.reduceLeDiff, Nat.reduceLT, Int.reduceLT, Int.reduceLE, Int.reduceEq, Int.reduceToNat, Int.reduceAdd, Int.reduceSub, Int.reduceNeg, Int.reduceBEq, Int.reduceBNe, Nat.reduceBEq, Int.cast_ofNat_Int, decide_true, decide_false, ne_eq, eq_self_iff_true, beq_eq_false_iff_ne, bne_iff_ne, List.replicate]

def ac44 : AC := (.seq (.ops [⟨(some 2), none, (.mv (.c .e0))⟩]) (.seq (.seq (.ops [⟨(some 3), none, (.mv (.t 0))⟩, ⟨(some 4), none, (.isn false (.t 3))⟩]) (.cond (.t 4) (.seq (.ops [⟨(some 2), none, (.mv (.c .e0))⟩]) .ret) .skip)) (.seq (.ops [⟨(some 5), none, (.buildSl 58 2 0 [(.str []), (.int .i64 0)] [])⟩, ⟨(some 6), none, (.mv (.t 0))⟩, ⟨(some 7), none, (.app 58 2 24 (.t 5) (.t 6))⟩, ⟨(some 2), none, (.mv (.t 7))⟩]) .ret)))
theorem tr44 : Try.f44.body.bind (trCode Try.prog) = some (strip ac44) := by kernel_rfl
theorem spec44 (us : List LU) (hb : us.length * 24 ≤ 140737488355328) : Spec Try.prog 44 [.fz (.sl 2 (us.map encLU))] (.own 58 2 (us.map encLU)) := by
  refine spec_at (n := 7) (ars := [(.t 2)]) (ac := ac44) Try.func44 (by kernel_rfl) (by kernel_rfl) tr44 (by kernel_rfl) ?_
  unfold ac44
  simp -implicitDefEqProofs only [gt, stp, sndL, ev, evs, evO, mget, mdel, mmap, mset, klc, kl, klb, bindE, bindM, fzc, fze, fzb, blkFz, mkAgg, isFz, hdl, hdls, hdlV, hdlVs, seg, mdels, forgetE, forget, mins, argE, argM, retV, eqP, eqPs, andO, dOps, dDT, dRun, dRunS, kResL, kOwR, pE, pM, subD, subL, subE, hE0, hSl, hAgg, hTup, hPf, hInt, hStr, hBool, hOth, msort, cellOK, SE, SL, e_nf, reduceCtorEq, ↓reduceIte, Nat.reduceEqDiff, Nat.reduceAdd, Nat.reduceMul, Nat.reduceSub, Nat.reduceLeDiff, Nat.reduceLT, Int.reduceLT, Int.reduceLE, Int.reduceEq, Int.reduceToNat, Int.reduceAdd, Int.reduceSub, Int.reduceNeg, Int.reduceBEq, Int.reduceBNe, Nat.reduceBEq, Int.cast_ofNat_Int, decide_true, decide_false, ne_eq, eq_self_iff_true, beq_eq_false_iff_ne, bne_iff_ne, List.replicate]
  have hm : maxLen = 9223372036854775807 := rfl
  rw [hm]
  refine ⟨fun h => by simpa using h, ?_⟩
  omega

def ac45 : AC := (.seq (.ops [⟨(some 2), none, (.mv (.c .e0))⟩]) (.seq (.seq (.ops [⟨(some 3), none, (.mv (.t 0))⟩, ⟨(some 4), none, (.isn false (.t 3))⟩]) (.cond (.t 4) (.seq (.ops [⟨(some 2), none, (.mv (.c .e0))⟩]) .ret) .skip)) (.seq (.ops [⟨(some 5), none, (.buildSl 61 2 0 [(.int .i64 0), (.int .i64 0)] [])⟩, ⟨(some 6), none, (.mv (.t 0))⟩, ⟨(some 7), none, (.app 61 2 16 (.t 5) (.t 6))⟩, ⟨(some 2), none, (.mv (.t 7))⟩]) .ret)))
theorem tr45 : Try.f45.body.bind (trCode Try.prog) = some (strip ac45) := by kernel_rfl
theorem spec45 (us : List LK) (hb : us.length * 16 ≤ 140737488355328) : Spec Try.prog 45 [.fz (.sl 2 (us.map encLK))] (.own 61 2 (us.map encLK)) := by
  refine spec_at (n := 7) (ars := [(.t 2)]) (ac := ac45) Try.func45 (by kernel_rfl) (by kernel_rfl) tr45 (by kernel_rfl) ?_
  unfold ac45
  simp -implicitDefEqProofs only [gt, stp, sndL, ev, evs, evO, mget, mdel, mmap, mset, klc, kl, klb, bindE, bindM, fzc, fze, fzb, blkFz, mkAgg, isFz, hdl, hdls, hdlV, hdlVs, seg, mdels, forgetE, forget, mins, argE, argM, retV, eqP, eqPs, andO, dOps, dDT, dRun, dRunS, kResL, kOwR, pE, pM, subD, subL, subE, hE0, hSl, hAgg, hTup, hPf, hInt, hStr, hBool, hOth, msort, cellOK, SE, SL, e_nf, reduceCtorEq, ↓reduceIte, Nat.reduceEqDiff, Nat.reduceAdd, Nat.reduceMul, Nat.reduceSub, Nat.reduceLeDiff, Nat.reduceLT, Int.reduceLT, Int.reduceLE, Int.reduceEq, Int.reduceToNat, Int.reduceAdd, Int.reduceSub, Int.reduceNeg, Int.reduceBEq, Int.reduceBNe, Nat.reduceBEq, Int.cast_ofNat_Int, decide_true, decide_false, ne_eq, eq_self_iff_true, beq_eq_false_iff_ne, bne_iff_ne, List.replicate]
  have hm : maxLen = 9223372036854775807 := rfl
  rw [hm]
  refine ⟨fun h => by simpa using h, ?_⟩
  omega


end Go.Proofs.Ythackanfbemabaa.E
