/-
  RaA: walks of functions of the program at data level.
-/
import Derived.Test.YthackanfbemabaaProg
import Derived.Test.YthackanfbemabaaEngZ
import Derived.KernelRfl
set_option linter.unusedVariables false
set_option linter.unusedSimpArgs false
namespace Go.Proofs.Ythackanfbemabaa.E
open Go
set_option maxHeartbeats 1000000
set_option maxRecDepth 100000
set_option linter.unusedSimpArgs false
set_option linter.unusedVariables false
attribute [local congr] c_wp c_ops c_op c_opS c_run c_runS c_dt c_seq c_blk c_loop c_S c_put c_bind c_mv c_pick c_nt c_ng c_bin c_binI c_binS c_beq c_B c_eqa c_hd c_cells c_blkK c_box c_vec c_take c_ld c_ldF c_cellsK c_st c_fld c_fldv c_ix c_ixp c_ixv c_ixs c_sub c_subs c_len c_lens c_src c_dst c_ow c_app c_ext c_mm c_conv c_str c_isn c_fill c_rows c_boxo c_frz c_frzO c_frzA c_frzV c_spec c_specO c_fz c_fn c_gv c_cond c_res1 c_resL c_ret c_qret
attribute [local irreducible] dwp

structure LU where
  user : List UInt8
  n : Int
def encLU (l : LU) : List DV := [.str l.user, .int .i64 l.n]
structure LK where
  kind : Int
  n : Int
def encLK (l : LK) : List DV := [.int .i64 l.kind, .int .i64 l.n]
def encS (s : List UInt8) : List DV := [.str s]
structure Lv where
  users : List LU
  kinds : List LK
  a2 : Int
  a3 : Int
  a4 : Int
  a5 : Int
  a6 : Int
  a7 : Int
  a8 : Int
def encLv (v : Lv) : List DV := [.sl 2 (v.users.map encLU), .sl 2 (v.kinds.map encLK), .int .i64 v.a2, .int .i64 v.a3, .int .i64 v.a4, .int .i64 v.a5, .int .i64 v.a6, .int .i64 v.a7, .int .i64 v.a8]
structure Ev where
  c0 : Int
  c1 : List UInt8
  sender : List UInt8
  kind : Int
  c4 : Bool
  key : List UInt8
  c6 : Int
  c7 : Int
  z8 : Nat
  c8 : List (List DV)
  z9 : Nat
  c9 : List (List DV)
  c10 : List UInt8
  n : Int
  c12 : Int
  c13 : Bool
  c14 : List UInt8
  allow : List (List UInt8)
  z16 : Nat
  c16 : List (List DV)
  lv : Lv
  c26 : Int
  c27 : List UInt8
  c28 : Int
def encEv (e : Ev) : List DV := [.int .i64 e.c0, .str e.c1, .str e.sender, .int .i64 e.kind, .bool e.c4, .str e.key, .int .i64 e.c6, .int .i64 e.c7, .sl e.z8 e.c8, .sl e.z9 e.c9, .str e.c10, .int .i64 e.n, .int .i64 e.c12, .bool e.c13, .str e.c14, .sl 1 (e.allow.map encS), .sl e.z16 e.c16,
  .sl 2 (e.lv.users.map encLU), .sl 2 (e.lv.kinds.map encLK), .int .i64 e.lv.a2, .int .i64 e.lv.a3, .int .i64 e.lv.a4, .int .i64 e.lv.a5, .int .i64 e.lv.a6, .int .i64 e.lv.a7, .int .i64 e.lv.a8, .int .i64 e.c26, .str e.c27, .int .i64 e.c28]

/-- the element at the place where a list is cut -/
theorem getD_cut {α : Type} (f : α → List DV) (pre : List α) (x : α) (rest : List α) : ((pre ++ x :: rest).map f).getD pre.length [] = f x := by
  simp [List.getD]
theorem lt_cut {α : Type} (pre : List α) (x : α) (rest : List α) : (pre.length : Int) < (pre ++ x :: rest).length := by
  simp
  omega
theorem nlt_cut {α : Type} (pre : List α) : ¬ ((pre.length : Int) < (pre ++ []).length) := by simp

def userL : List LU → List UInt8 → Int → Int
  | [], _, d => d
  | x :: l, u, d => if x.user = u then x.n else userL l u d
def ac26 : AC := (.seq (.ops [⟨(some 2), none, (.box (.t 0))⟩, ⟨(some 4), none, (.mv (.c (.int .i64 0)))⟩]) (.seq (.seq (.ops [⟨(some 7), none, (.fld 0 (.t 2))⟩, ⟨(some 8), none, (.ld false 1 (.t 7))⟩, ⟨(some 9), none, (.len (.t 8))⟩, ⟨(some 10), none, (.mv (.c (.int .i64 0)))⟩]) (.block 0 (.loop (.seq (.ops [⟨(some 11), none, (.bin .lss (.t 10) (.t 9))⟩]) (.seq (.cond (.t 11) .skip (.exit 0)) (.seq (.block 1 (.seq (.ops [⟨(some 12), none, (.ix 2 (.t 8) (.t 10))⟩, ⟨(some 13), none, (.ld true 2 (.t 12))⟩, ⟨(some 6), none, (.alloc [(.str []), (.int .i64 0)])⟩, ⟨none, none, (.sto 2 (.t 6) (.t 13))⟩]) (.seq (.ops [⟨(some 14), none, (.fld 0 (.t 6))⟩, ⟨(some 15), none, (.ld false 1 (.t 14))⟩, ⟨(some 16), none, (.mv (.t 1))⟩, ⟨(some 17), none, (.bin .eql (.t 15) (.t 16))⟩]) (.cond (.t 17) (.seq (.ops [⟨(some 18), none, (.fld 1 (.t 6))⟩, ⟨(some 19), none, (.ld false 1 (.t 18))⟩, ⟨(some 4), none, (.mv (.t 19))⟩]) .ret) .skip)))) (.ops [⟨(some 20), none, (.bin .add (.t 10) (.c (.int .i64 1)))⟩, ⟨(some 10), none, (.mv (.t 20))⟩]))))))) (.seq (.ops [⟨(some 21), none, (.fld 2 (.t 2))⟩, ⟨(some 22), none, (.ld false 1 (.t 21))⟩, ⟨(some 4), none, (.mv (.t 22))⟩]) .ret)))
theorem tr26 : Try.f26.body.bind (trCode Try.prog) = some (strip ac26) := by kernel_rfl
theorem spec26 (v : Lv) (u : List UInt8) : Spec Try.prog 26 [.fz (.agg (encLv v)), .fz (.str u)] (.fz (.int .i64 (userL v.users u v.a2))) := by
  refine spec_at (n := 21) (ars := [(.t 4)]) (ac := ac26) Try.func26 (by kernel_rfl) (by kernel_rfl) tr26 (by kernel_rfl) ?_
  unfold ac26
  obtain ⟨us, ks, c2, c3, c4, c5, c6, c7, c8⟩ := v
  simp -implicitDefEqProofs only [gt, stp, sndL, ev, evs, evO, mget, mdel, mmap, mset, klc, kl, klb, bindE, bindM, fzc, fze, fzb, blkFz, mkAgg, isFz, hdl, hdls, hdlV, hdlVs, seg, mdels, forgetE, forget, mins, argE, argM, retV, eqP, eqPs, andO, dOps, dDT, dRun, dRunS, kResL, kOwR, pE, pM, subD, subL, subE, hE0, hSl, hAgg, hTup, hPf, hInt, hStr, hBool, hOth, msort, cellOK, SE, SL, e_nf, reduceCtorEq, ↓reduceIte, Nat.reduceEqDiff, Nat.reduceAdd, Nat.reduceMul, Nat.reduceSub, Nat.reduceLeDiff, Nat.reduceLT, Int.reduceLT, Int.reduceLE, Int.reduceEq, Int.reduceToNat, Int.reduceAdd, Int.reduceSub, Int.reduceNeg, Int.reduceBEq, Int.reduceBNe, Nat.reduceBEq, Int.cast_ofNat_Int, decide_true, decide_false, ne_eq, eq_self_iff_true, beq_eq_false_iff_ne, bne_iff_ne, List.replicate, encLv]
  intro hl
  refine loop_p (X := List LU × List LU) (fun n x => us = x.1 ++ x.2 ∧ n = x.2.length ∧ userL us u c2 = userL x.2 u c2) (fun x => [(10, .int .i64 x.1.length)]) (fun _ => []) [6, 11, 12, 13, 14, 15, 16, 17, 18, 19, 20] [6] us.length ([], us) ⟨rfl, rfl, rfl⟩ ?_ ?_
  · simp -implicitDefEqProofs only [gt, stp, sndL, ev, evs, evO, mget, mdel, mmap, mset, klc, kl, klb, bindE, bindM, fzc, fze, fzb, blkFz, mkAgg, isFz, hdl, hdls, hdlV, hdlVs, seg, mdels, forgetE, forget, mins, argE, argM, retV, eqP, eqPs, andO, dOps, dDT, dRun, dRunS, kResL, kOwR, pE, pM, subD, subL, subE, hE0, hSl, hAgg, hTup, hPf, hInt, hStr, hBool, hOth, msort, cellOK, SE, SL, e_nf, reduceCtorEq, ↓reduceIte, Nat.reduceEqDiff, Nat.reduceAdd, Nat.reduceMul, Nat.reduceSub, Nat.reduceLeDiff, Nat.reduceLT, Int.reduceLT, Int.reduceLE, Int.reduceEq, Int.reduceToNat, Int.reduceAdd, Int.reduceSub, Int.reduceNeg, Int.reduceBEq, Int.reduceBNe, Nat.reduceBEq, Int.cast_ofNat_Int, decide_true, decide_false, ne_eq, eq_self_iff_true, beq_eq_false_iff_ne, bne_iff_ne, List.replicate]
  · intro n x hR
    obtain ⟨pre, rest⟩ := x
    obtain ⟨rfl, rfl, h3⟩ := hR
    cases rest with
    | nil =>
      have hlt := nlt_cut pre
      simp -implicitDefEqProofs only [gt, stp, sndL, ev, evs, evO, mget, mdel, mmap, mset, klc, kl, klb, bindE, bindM, fzc, fze, fzb, blkFz, mkAgg, isFz, hdl, hdls, hdlV, hdlVs, seg, mdels, forgetE, forget, mins, argE, argM, retV, eqP, eqPs, andO, dOps, dDT, dRun, dRunS, kResL, kOwR, pE, pM, subD, subL, subE, hE0, hSl, hAgg, hTup, hPf, hInt, hStr, hBool, hOth, msort, cellOK, SE, SL, e_nf, reduceCtorEq, ↓reduceIte, Nat.reduceEqDiff, Nat.reduceAdd, Nat.reduceMul, Nat.reduceSub, Nat.reduceLeDiff, Nat.reduceLT, Int.reduceLT, Int.reduceLE, Int.reduceEq, Int.reduceToNat, Int.reduceAdd, Int.reduceSub, Int.reduceNeg, Int.reduceBEq, Int.reduceBNe, Nat.reduceBEq, Int.cast_ofNat_Int, decide_true, decide_false, ne_eq, eq_self_iff_true, beq_eq_false_iff_ne, bne_iff_ne, List.replicate, hlt, h3, userL]
    | cons x rest =>
      have hlt := lt_cut pre x rest
      have hx := getD_cut encLU pre x rest
      simp only [encLU] at hx
      have hw := wrap_len (n := pre.length) (m := (pre ++ x :: rest).length) (by simp) hl
      simp -implicitDefEqProofs only [gt, stp, sndL, ev, evs, evO, mget, mdel, mmap, mset, klc, kl, klb, bindE, bindM, fzc, fze, fzb, blkFz, mkAgg, isFz, hdl, hdls, hdlV, hdlVs, seg, mdels, forgetE, forget, mins, argE, argM, retV, eqP, eqPs, andO, dOps, dDT, dRun, dRunS, kResL, kOwR, pE, pM, subD, subL, subE, hE0, hSl, hAgg, hTup, hPf, hInt, hStr, hBool, hOth, msort, cellOK, SE, SL, e_nf, reduceCtorEq, ↓reduceIte, Nat.reduceEqDiff, Nat.reduceAdd, Nat.reduceMul, Nat.reduceSub, Nat.reduceLeDiff, Nat.reduceLT, Int.reduceLT, Int.reduceLE, Int.reduceEq, Int.reduceToNat, Int.reduceAdd, Int.reduceSub, Int.reduceNeg, Int.reduceBEq, Int.reduceBNe, Nat.reduceBEq, Int.cast_ofNat_Int, decide_true, decide_false, ne_eq, eq_self_iff_true, beq_eq_false_iff_ne, bne_iff_ne, List.replicate, hlt, hx, h3, userL, hw]
      refine ⟨fun h => by simp [h], fun h => ⟨rest.length, [6, 11, 12, 13, 14, 15, 16, 17, 18, 19, 20], [6], by simp, (pre ++ [x], rest), ⟨by simp, rfl, by simp [h]⟩, ?_⟩⟩
      simp -implicitDefEqProofs only [gt, stp, sndL, ev, evs, evO, mget, mdel, mmap, mset, klc, kl, klb, bindE, bindM, fzc, fze, fzb, blkFz, mkAgg, isFz, hdl, hdls, hdlV, hdlVs, seg, mdels, forgetE, forget, mins, argE, argM, retV, eqP, eqPs, andO, dOps, dDT, dRun, dRunS, kResL, kOwR, pE, pM, subD, subL, subE, hE0, hSl, hAgg, hTup, hPf, hInt, hStr, hBool, hOth, msort, cellOK, SE, SL, e_nf, reduceCtorEq, ↓reduceIte, Nat.reduceEqDiff, Nat.reduceAdd, Nat.reduceMul, Nat.reduceSub, Nat.reduceLeDiff, Nat.reduceLT, Int.reduceLT, Int.reduceLE, Int.reduceEq, Int.reduceToNat, Int.reduceAdd, Int.reduceSub, Int.reduceNeg, Int.reduceBEq, Int.reduceBNe, Nat.reduceBEq, Int.cast_ofNat_Int, decide_true, decide_false, ne_eq, eq_self_iff_true, beq_eq_false_iff_ne, bne_iff_ne, List.replicate]
      simp


end Go.Proofs.Ythackanfbemabaa.E
