/-
  OnP: walks of functions of the program at data level.
-/
import Derived.Test.YtcjlkbffmggekaaProg
import Derived.Test.YtcjlkbffmggekaaEngZ
import Derived.Test.YtcjlkbffmggekaaOnO
import Derived.KernelRfl
set_option linter.unusedVariables false
set_option linter.unusedSimpArgs false
namespace Go.Proofs.Ytcjlkbffmggekaa.E
open Go
set_option maxHeartbeats 4000000
set_option maxRecDepth 100000
set_option linter.unusedSimpArgs false
set_option linter.unusedVariables false
attribute [local congr] c_wp c_ops c_op c_opS c_run c_runS c_dt c_seq c_blk c_loop c_S c_put c_bind c_mv c_pick c_nt c_ng c_bin c_binI c_binS c_beq c_B c_eqa c_hd c_cells c_blkK c_box c_vec c_mp c_nck c_mks c_appn c_mkm c_mput c_mlk c_mrm c_take c_ld c_ldF c_cellsK c_st c_fld c_fldv c_ix c_ixp c_ixv c_ixs c_sub c_subs c_len c_lens c_src c_dst c_ow c_app c_ext c_mm c_conv c_str c_isn c_fill c_rows c_boxo c_frz c_frzO c_frzA c_frzV c_spec c_specO c_opsP c_opP c_runP c_specP c_Z c_qretP c_fz c_fn c_gv c_cond c_res1 c_resL c_ret c_qret c_ite c_unr c_nx c_bk c_cut c_is
attribute [local irreducible] dwp
def ac10 : AC := (.seq (.ops [⟨(some 2), none, (.mv (.c (.int .i64 0)))⟩]) (.seq (.seq (.ops [⟨(some 5), none, (.mv (.t 0))⟩, ⟨(some 6), none, (.len (.t 5))⟩, ⟨(some 7), none, (.mv (.c (.int .i64 0)))⟩]) (.block 0 (.loop (.seq (.ops [⟨(some 8), none, (.bin .lss (.t 7) (.t 6))⟩]) (.seq (.cond (.t 8) .skip (.exit 0)) (.seq (.block 1 (.seq (.ops [⟨(some 9), none, (.mv (.t 7))⟩, ⟨(some 10), none, (.ix 4 (.t 5) (.t 7))⟩, ⟨(some 11), none, (.ld true 4 (.t 10))⟩, ⟨(some 4), none, (.alloc [(.str []), (.str []), (.int .i64 0), (.int .i64 0)])⟩, ⟨(some 3), none, (.mv (.t 9))⟩, ⟨none, none, (.sto 4 (.t 4) (.t 11))⟩]) (.block 2 (.seq (.ops [⟨(some 13), none, (.fld 0 (.t 4))⟩, ⟨(some 14), none, (.ld false 1 (.t 13))⟩, ⟨(some 15), none, (.fld 1 (.t 4))⟩, ⟨(some 16), none, (.ld false 1 (.t 15))⟩, ⟨(some 17), none, (.call false 21 [(.t 14), (.t 16)])⟩, ⟨(some 18), none, (.nt (.t 17))⟩, ⟨(some 12), none, (.mv (.t 18))⟩]) (.cond (.t 12) (.seq (.ops [⟨(some 2), none, (.mv (.c (.int .i64 3)))⟩]) .ret) (.seq (.ops [⟨(some 20), none, (.fld 3 (.t 4))⟩, ⟨(some 21), none, (.ld false 1 (.t 20))⟩, ⟨(some 22), none, (.bin .lss (.t 21) (.c (.int .i64 0)))⟩, ⟨(some 23), none, (.mv (.t 22))⟩, ⟨(some 24), (some (23, false)), (.fld 3 (.t 4))⟩, ⟨(some 25), (some (23, false)), (.ld false 1 (.t 24))⟩, ⟨(some 26), (some (23, false)), (.bin .gtr (.t 25) (.c (.int .i64 200)))⟩, ⟨(some 27), none, (.pick (.t 23) (.c (.bool true)) (.t 26))⟩, ⟨(some 28), none, (.mv (.t 27))⟩, ⟨(some 29), (some (28, false)), (.fld 2 (.t 4))⟩, ⟨(some 30), (some (28, false)), (.ld false 1 (.t 29))⟩, ⟨(some 31), (some (28, false)), (.fld 3 (.t 4))⟩, ⟨(some 32), (some (28, false)), (.ld false 1 (.t 31))⟩, ⟨(some 33), (some (28, false)), (.bin .lss (.t 30) (.t 32))⟩, ⟨(some 34), none, (.pick (.t 28) (.c (.bool true)) (.t 33))⟩, ⟨(some 35), none, (.mv (.t 34))⟩, ⟨(some 36), (some (35, false)), (.fld 2 (.t 4))⟩, ⟨(some 37), (some (35, false)), (.ld false 1 (.t 36))⟩, ⟨(some 38), (some (35, false)), (.bin .gtr (.t 37) (.c (.int .i64 1000000000000)))⟩, ⟨(some 39), none, (.pick (.t 35) (.c (.bool true)) (.t 38))⟩, ⟨(some 19), none, (.mv (.t 39))⟩]) (.cond (.t 19) (.seq (.ops [⟨(some 2), none, (.mv (.c (.int .i64 2)))⟩]) .ret) (.seq (.draw (.q false ⟨(some 41), none, (.mv (.t 3))⟩ (.q false ⟨(some 42), none, (.bin .gtr (.t 41) (.c (.int .i64 0)))⟩ (.q false ⟨(some 43), none, (.mv (.t 42))⟩ (.q false ⟨(some 44), (some (43, true)), (.mv (.t 0))⟩ (.q false ⟨(some 45), (some (43, true)), (.mv (.t 3))⟩ (.q false ⟨(some 46), (some (43, true)), (.bin .sub (.t 45) (.c (.int .i64 1)))⟩ (.q false ⟨(some 47), (some (43, true)), (.ix 4 (.t 44) (.t 46))⟩ (.q false ⟨(some 48), (some (43, true)), (.ld true 4 (.t 47))⟩ (.q false ⟨(some 49), (some (43, true)), (.fld 0 (.t 4))⟩ (.q false ⟨(some 50), (some (43, true)), (.ld false 1 (.t 49))⟩ (.q false ⟨(some 51), (some (43, true)), (.fld 1 (.t 4))⟩ (.q false ⟨(some 52), (some (43, true)), (.ld false 1 (.t 51))⟩ (.op ⟨(some 53), (some (43, true)), (.call false 22 [(.t 48), (.t 50), (.t 52)])⟩ (.q false ⟨(some 54), (some (43, true)), (.nt (.t 53))⟩ (.q false ⟨(some 55), none, (.pick (.t 43) (.t 54) (.c (.bool false)))⟩ (.q false ⟨(some 40), none, (.mv (.t 55))⟩ .nil))))))))))))))))) (.cond (.t 40) (.seq (.ops [⟨(some 2), none, (.mv (.c (.int .i64 8)))⟩]) .ret) .skip))))))))) (.ops [⟨(some 56), none, (.bin .add (.t 7) (.c (.int .i64 1)))⟩, ⟨(some 7), none, (.mv (.t 56))⟩]))))))) (.seq (.ops [⟨(some 2), none, (.mv (.c (.int .i64 0)))⟩]) .ret)))
theorem tr10 : Try.f10.body.bind (trCode Try.prog) = some (strip ac10) := by kernel_rfl
theorem spec10 (l : List OT) : Spec Try.prog 10 [.fz (.sl 4 (l.map encOT))] (.fz (.int .i64 (chkL l))) := by
  refine spec_at (n := 56) (ars := [(.t 2)]) (ac := ac10) Try.func10 (by kernel_rfl) (by kernel_rfl) tr10 (by kernel_rfl) ?_
  unfold ac10
  simp -implicitDefEqProofs only [SD, SF, SL, e_nf, reduceCtorEq, implies_true, ↓reduceIte, Nat.reduceEqDiff, Nat.reduceAdd, Nat.reduceMul, Nat.reduceSub, Nat.reduceLeDiff, Nat.reduceLT, Int.reduceLT, Int.reduceLE, Int.reduceEq, Int.reduceToNat, Int.reduceAdd, Int.reduceSub, Int.reduceNeg, Int.reduceBEq, Int.reduceBNe, Nat.reduceBEq, Int.cast_ofNat_Int, decide_true, decide_false, ne_eq, eq_self_iff_true, beq_eq_false_iff_ne, bne_iff_ne, List.replicate]
  intro hl
  refine loop_q (X := List OT × List OT × Unit) (fun n x => l = x.1 ++ x.2.1 ∧ n = x.2.1.length ∧ (chkL l = chkF x.1.getLast? x.2.1)) (fun x => [(7, .int .i64 x.1.length)]) (fun _ => []) [2, 3, 4, 8, 9, 10, 11, 12, 13, 14, 15, 16, 17, 18, 19, 20, 21, 22, 23, 24, 25, 26, 27, 28, 29, 30, 31, 32, 33, 34, 35, 36, 37, 38, 39, 40, 41, 42, 43, 44, 45, 46, 47, 48, 49, 50, 51, 52, 53, 54, 55, 56] [4]  (l).length ([], l, ()) ⟨rfl, rfl, by first | rfl | (simp_all [chkF, okPrev, validR, numB]; done) | grind [chkF, okPrev, validR, numB]⟩ ?_ ?_
  · simp -implicitDefEqProofs only [SD, SF, SL, e_nf, reduceCtorEq, implies_true, ↓reduceIte, Nat.reduceEqDiff, Nat.reduceAdd, Nat.reduceMul, Nat.reduceSub, Nat.reduceLeDiff, Nat.reduceLT, Int.reduceLT, Int.reduceLE, Int.reduceEq, Int.reduceToNat, Int.reduceAdd, Int.reduceSub, Int.reduceNeg, Int.reduceBEq, Int.reduceBNe, Nat.reduceBEq, Int.cast_ofNat_Int, decide_true, decide_false, ne_eq, eq_self_iff_true, beq_eq_false_iff_ne, bne_iff_ne, List.replicate, encOT] <;> simp
  · rintro n ⟨pre, rest, a⟩ ⟨he, rfl, hI⟩
    dsimp only at he hI
    cases rest with
    | nil =>
      obtain rfl : l = pre := by simpa using he
      clear he
      have hlt : ¬ (((l).length : Int) < ((l).length : Int)) := Int.lt_irrefl _
      iterate 30 (all_goals (try (first
        | ((with_reducible refine of_kSpec ?_); refine call_fz (spec21 _ _) rfl ?_)
        | ((with_reducible refine of_kSpec ?_)
           refine call_sub (ds' := [.agg (encOT p), .str x.user, .str x.dev]) (spec22 p x.user x.dev) rfl ?_ ?_
           · simp -implicitDefEqProofs only [SD, SF, SL, e_nf, reduceCtorEq, implies_true, ↓reduceIte, Nat.reduceEqDiff, Nat.reduceAdd, Nat.reduceMul, Nat.reduceSub, Nat.reduceLeDiff, Nat.reduceLT, Int.reduceLT, Int.reduceLE, Int.reduceEq, Int.reduceToNat, Int.reduceAdd, Int.reduceSub, Int.reduceNeg, Int.reduceBEq, Int.reduceBNe, Nat.reduceBEq, Int.cast_ofNat_Int, decide_true, decide_false, ne_eq, eq_self_iff_true, beq_eq_false_iff_ne, bne_iff_ne, List.replicate, encOT, *]
             done)
        | (with_reducible refine ite_in (fun _ => ?_) (fun _ => ?_))
        | (with_reducible refine ⟨fun _ => ?_, fun _ => ?_⟩)
        | (with_reducible refine And.intro ?_ ?_)
        | (with_reducible intro _)
        | (with_reducible exact is_in _)
        | ((with_reducible refine eq_in ?_); (first | (simp_all [chkF, okPrev, validR, numB]; done) | (simp_all [chkF, okPrev, validR, numB]; omega) | grind [chkF, okPrev, validR, numB]); done)
        | (simp -implicitDefEqProofs only [SD, SF, SL, e_nf, reduceCtorEq, implies_true, ↓reduceIte, Nat.reduceEqDiff, Nat.reduceAdd, Nat.reduceMul, Nat.reduceSub, Nat.reduceLeDiff, Nat.reduceLT, Int.reduceLT, Int.reduceLE, Int.reduceEq, Int.reduceToNat, Int.reduceAdd, Int.reduceSub, Int.reduceNeg, Int.reduceBEq, Int.reduceBNe, Nat.reduceBEq, Int.cast_ofNat_Int, decide_true, decide_false, ne_eq, eq_self_iff_true, beq_eq_false_iff_ne, bne_iff_ne, List.replicate, encOT, *]))))
      all_goals (simp_all [chkF])

    | cons x rest =>
      have hlt := cut_lt he
      have hx := cutD encOT he
      simp only [encOT] at hx
      have hw := wrap_len (n := pre.length) (m := (l).length) (cut_lt' he) (by simpa using hl)
      replace he := Hd.mk he
      rcases prev_cases (enc := encOT) he.out hl with ⟨hgl, hp0⟩ | ⟨p, hgl, hp0, hpv, hpl, hpw⟩
      iterate 30 (all_goals (try (first
        | ((with_reducible refine back_in rest.length [2, 3, 4, 8, 9, 10, 11, 12, 13, 14, 15, 16, 17, 18, 19, 20, 21, 22, 23, 24, 25, 26, 27, 28, 29, 30, 31, 32, 33, 34, 35, 36, 37, 38, 39, 40, 41, 42, 43, 44, 45, 46, 47, 48, 49, 50, 51, 52, 53, 54, 55, 56] [4] (pre ++ [x], rest, a) ?_ ⟨?_, ?_, ?_⟩ ?_)
           · simp
           · exact cut_snoc he.out
           · rfl
           · first | rfl | (simp_all [chkF, okPrev, validR, numB]; done) | grind [chkF, okPrev, validR, numB]
           · first | (simp -implicitDefEqProofs only [SD, SF, SL, e_nf, reduceCtorEq, implies_true, ↓reduceIte, Nat.reduceEqDiff, Nat.reduceAdd, Nat.reduceMul, Nat.reduceSub, Nat.reduceLeDiff, Nat.reduceLT, Int.reduceLT, Int.reduceLE, Int.reduceEq, Int.reduceToNat, Int.reduceAdd, Int.reduceSub, Int.reduceNeg, Int.reduceBEq, Int.reduceBNe, Nat.reduceBEq, Int.cast_ofNat_Int, decide_true, decide_false, ne_eq, eq_self_iff_true, beq_eq_false_iff_ne, bne_iff_ne, List.replicate, encOT] <;> simp <;> done) | (simp -implicitDefEqProofs only [SD, SF, SL, e_nf, reduceCtorEq, implies_true, ↓reduceIte, Nat.reduceEqDiff, Nat.reduceAdd, Nat.reduceMul, Nat.reduceSub, Nat.reduceLeDiff, Nat.reduceLT, Int.reduceLT, Int.reduceLE, Int.reduceEq, Int.reduceToNat, Int.reduceAdd, Int.reduceSub, Int.reduceNeg, Int.reduceBEq, Int.reduceBNe, Nat.reduceBEq, Int.cast_ofNat_Int, decide_true, decide_false, ne_eq, eq_self_iff_true, beq_eq_false_iff_ne, bne_iff_ne, List.replicate, encOT, *] <;> simp_all <;> done))
        | ((with_reducible refine of_kSpec ?_); refine call_fz (spec21 _ _) rfl ?_)
        | ((with_reducible refine of_kSpec ?_)
           refine call_sub (ds' := [.agg (encOT p), .str x.user, .str x.dev]) (spec22 p x.user x.dev) rfl ?_ ?_
           · simp -implicitDefEqProofs only [SD, SF, SL, e_nf, reduceCtorEq, implies_true, ↓reduceIte, Nat.reduceEqDiff, Nat.reduceAdd, Nat.reduceMul, Nat.reduceSub, Nat.reduceLeDiff, Nat.reduceLT, Int.reduceLT, Int.reduceLE, Int.reduceEq, Int.reduceToNat, Int.reduceAdd, Int.reduceSub, Int.reduceNeg, Int.reduceBEq, Int.reduceBNe, Nat.reduceBEq, Int.cast_ofNat_Int, decide_true, decide_false, ne_eq, eq_self_iff_true, beq_eq_false_iff_ne, bne_iff_ne, List.replicate, encOT, *]
             done)
        | (with_reducible refine ite_in (fun _ => ?_) (fun _ => ?_))
        | (with_reducible refine ⟨fun _ => ?_, fun _ => ?_⟩)
        | (with_reducible refine And.intro ?_ ?_)
        | (with_reducible intro _)
        | (with_reducible exact is_in _)
        | ((with_reducible refine eq_in ?_); (first | (simp_all [chkF, okPrev, validR, numB]; done) | (simp_all [chkF, okPrev, validR, numB]; omega) | grind [chkF, okPrev, validR, numB]); done)
        | (simp -implicitDefEqProofs only [SD, SF, SL, e_nf, reduceCtorEq, implies_true, ↓reduceIte, Nat.reduceEqDiff, Nat.reduceAdd, Nat.reduceMul, Nat.reduceSub, Nat.reduceLeDiff, Nat.reduceLT, Int.reduceLT, Int.reduceLE, Int.reduceEq, Int.reduceToNat, Int.reduceAdd, Int.reduceSub, Int.reduceNeg, Int.reduceBEq, Int.reduceBNe, Nat.reduceBEq, Int.cast_ofNat_Int, decide_true, decide_false, ne_eq, eq_self_iff_true, beq_eq_false_iff_ne, bne_iff_ne, List.replicate, encOT, *]))))
def ac11 : AC := (.seq (.ops [⟨(some 2), none, (.mv (.c (.int .i64 0)))⟩]) (.seq (.seq (.ops [⟨(some 3), none, (.mv (.c (.int .i64 0)))⟩]) (.block 0 (.loop (.seq (.seq (.ops [⟨(some 5), none, (.mv (.t 3))⟩, ⟨(some 6), none, (.mv (.t 0))⟩, ⟨(some 7), none, (.len (.t 6))⟩, ⟨(some 8), none, (.bin .lss (.t 5) (.t 7))⟩]) (.cond (.t 8) .skip (.exit 0))) (.seq (.block 1 (.seq (.ops [⟨(some 11), none, (.mv (.t 0))⟩, ⟨(some 12), none, (.mv (.t 3))⟩, ⟨(some 13), none, (.ix 4 (.t 11) (.t 12))⟩, ⟨(some 14), none, (.ld true 4 (.t 13))⟩, ⟨(some 4), none, (.alloc [(.str []), (.str []), (.int .i64 0), (.int .i64 0)])⟩, ⟨none, none, (.sto 4 (.t 4) (.t 14))⟩]) (.seq (.seq (.ops [⟨(some 15), none, (.fld 0 (.t 4))⟩, ⟨(some 16), none, (.ld false 1 (.t 15))⟩, ⟨(some 17), none, (.fld 1 (.t 4))⟩, ⟨(some 18), none, (.ld false 1 (.t 17))⟩, ⟨(some 19), none, (.call false 23 [(.t 16), (.t 18)])⟩, ⟨(some 20), none, (.bin .neq (.t 19) (.c (.int .i64 0)))⟩]) (.cond (.t 20) (.seq (.ops [⟨(some 2), none, (.mv (.c (.int .i64 3)))⟩]) .ret) .skip)) (.seq (.seq (.ops [⟨(some 21), none, (.fld 3 (.t 4))⟩, ⟨(some 22), none, (.ld false 1 (.t 21))⟩, ⟨(some 23), none, (.bin .lss (.t 22) (.c (.int .i64 0)))⟩, ⟨(some 24), none, (.mv (.t 23))⟩, ⟨(some 25), (some (24, false)), (.fld 3 (.t 4))⟩, ⟨(some 26), (some (24, false)), (.ld false 1 (.t 25))⟩, ⟨(some 27), (some (24, false)), (.bin .gtr (.t 26) (.c (.int .i64 200)))⟩, ⟨(some 28), none, (.pick (.t 24) (.c (.bool true)) (.t 27))⟩, ⟨(some 29), none, (.mv (.t 28))⟩, ⟨(some 30), (some (29, false)), (.fld 2 (.t 4))⟩, ⟨(some 31), (some (29, false)), (.ld false 1 (.t 30))⟩, ⟨(some 32), (some (29, false)), (.fld 3 (.t 4))⟩, ⟨(some 33), (some (29, false)), (.ld false 1 (.t 32))⟩, ⟨(some 34), (some (29, false)), (.bin .lss (.t 31) (.t 33))⟩, ⟨(some 35), none, (.pick (.t 29) (.c (.bool true)) (.t 34))⟩, ⟨(some 36), none, (.mv (.t 35))⟩, ⟨(some 37), (some (36, false)), (.fld 2 (.t 4))⟩, ⟨(some 38), (some (36, false)), (.ld false 1 (.t 37))⟩, ⟨(some 39), (some (36, false)), (.bin .gtr (.t 38) (.c (.int .i64 1000000000000)))⟩, ⟨(some 40), none, (.pick (.t 36) (.c (.bool true)) (.t 39))⟩]) (.cond (.t 40) (.seq (.ops [⟨(some 2), none, (.mv (.c (.int .i64 2)))⟩]) .ret) .skip)) (.seq (.draw (.q false ⟨(some 41), none, (.mv (.t 3))⟩ (.q false ⟨(some 42), none, (.bin .gtr (.t 41) (.c (.int .i64 0)))⟩ (.q false ⟨(some 43), none, (.mv (.t 42))⟩ (.q false ⟨(some 44), (some (43, true)), (.mv (.t 0))⟩ (.q false ⟨(some 45), (some (43, true)), (.mv (.t 3))⟩ (.q false ⟨(some 46), (some (43, true)), (.bin .sub (.t 45) (.c (.int .i64 1)))⟩ (.q false ⟨(some 47), (some (43, true)), (.ix 4 (.t 44) (.t 46))⟩ (.q false ⟨(some 48), (some (43, true)), (.ld true 4 (.t 47))⟩ (.q false ⟨(some 49), (some (43, true)), (.fld 0 (.t 4))⟩ (.q false ⟨(some 50), (some (43, true)), (.ld false 1 (.t 49))⟩ (.q false ⟨(some 51), (some (43, true)), (.fld 1 (.t 4))⟩ (.q false ⟨(some 52), (some (43, true)), (.ld false 1 (.t 51))⟩ (.op ⟨(some 53), (some (43, true)), (.call false 24 [(.t 48), (.t 50), (.t 52)])⟩ (.q false ⟨(some 54), (some (43, true)), (.nt (.t 53))⟩ (.q false ⟨(some 55), none, (.pick (.t 43) (.t 54) (.c (.bool false)))⟩ .nil)))))))))))))))) (.cond (.t 55) (.seq (.ops [⟨(some 2), none, (.mv (.c (.int .i64 8)))⟩]) .ret) .skip)))))) (.ops [⟨(some 9), none, (.mv (.t 3))⟩, ⟨(some 10), none, (.bin .add (.t 9) (.c (.int .i64 1)))⟩, ⟨(some 3), none, (.mv (.t 10))⟩])))))) (.seq (.ops [⟨(some 2), none, (.mv (.c (.int .i64 0)))⟩]) .ret)))
theorem tr11 : Try.f11.body.bind (trCode Try.prog) = some (strip ac11) := by kernel_rfl
theorem spec11 (l : List OT) : Spec Try.prog 11 [.fz (.sl 4 (l.map encOT))] (.fz (.int .i64 (chkL l))) := by
  refine spec_at (n := 55) (ars := [(.t 2)]) (ac := ac11) Try.func11 (by kernel_rfl) (by kernel_rfl) tr11 (by kernel_rfl) ?_
  unfold ac11
  simp -implicitDefEqProofs only [SD, SF, SL, e_nf, reduceCtorEq, implies_true, ↓reduceIte, Nat.reduceEqDiff, Nat.reduceAdd, Nat.reduceMul, Nat.reduceSub, Nat.reduceLeDiff, Nat.reduceLT, Int.reduceLT, Int.reduceLE, Int.reduceEq, Int.reduceToNat, Int.reduceAdd, Int.reduceSub, Int.reduceNeg, Int.reduceBEq, Int.reduceBNe, Nat.reduceBEq, Int.cast_ofNat_Int, decide_true, decide_false, ne_eq, eq_self_iff_true, beq_eq_false_iff_ne, bne_iff_ne, List.replicate]
  refine loop_q (X := List OT × List OT × Unit) (fun n x => l = x.1 ++ x.2.1 ∧ n = x.2.1.length ∧ (chkL l = chkF x.1.getLast? x.2.1)) (fun x => [(3, .int .i64 x.1.length)]) (fun _ => []) [2, 4, 5, 6, 7, 8, 9, 10, 11, 12, 13, 14, 15, 16, 17, 18, 19, 20, 21, 22, 23, 24, 25, 26, 27, 28, 29, 30, 31, 32, 33, 34, 35, 36, 37, 38, 39, 40, 41, 42, 43, 44, 45, 46, 47, 48, 49, 50, 51, 52, 53, 54, 55] [4]  (l).length ([], l, ()) ⟨rfl, rfl, by first | rfl | (simp_all [chkF, okPrev, validR, numB]; done) | grind [chkF, okPrev, validR, numB]⟩ ?_ ?_
  · simp -implicitDefEqProofs only [SD, SF, SL, e_nf, reduceCtorEq, implies_true, ↓reduceIte, Nat.reduceEqDiff, Nat.reduceAdd, Nat.reduceMul, Nat.reduceSub, Nat.reduceLeDiff, Nat.reduceLT, Int.reduceLT, Int.reduceLE, Int.reduceEq, Int.reduceToNat, Int.reduceAdd, Int.reduceSub, Int.reduceNeg, Int.reduceBEq, Int.reduceBNe, Nat.reduceBEq, Int.cast_ofNat_Int, decide_true, decide_false, ne_eq, eq_self_iff_true, beq_eq_false_iff_ne, bne_iff_ne, List.replicate, encOT] <;> simp
  · rintro n ⟨pre, rest, a⟩ ⟨he, rfl, hI⟩
    dsimp only at he hI
    cases rest with
    | nil =>
      obtain rfl : l = pre := by simpa using he
      clear he
      have hlt : ¬ (((l).length : Int) < ((l).length : Int)) := Int.lt_irrefl _
      iterate 30 (all_goals (try (first
        | ((with_reducible refine of_kSpec ?_); refine call_fz (spec23 _ _) rfl ?_)
        | ((with_reducible refine of_kSpec ?_)
           refine call_sub (ds' := [.agg (encOT p), .str x.user, .str x.dev]) (spec24 p x.user x.dev) rfl ?_ ?_
           · simp -implicitDefEqProofs only [SD, SF, SL, e_nf, reduceCtorEq, implies_true, ↓reduceIte, Nat.reduceEqDiff, Nat.reduceAdd, Nat.reduceMul, Nat.reduceSub, Nat.reduceLeDiff, Nat.reduceLT, Int.reduceLT, Int.reduceLE, Int.reduceEq, Int.reduceToNat, Int.reduceAdd, Int.reduceSub, Int.reduceNeg, Int.reduceBEq, Int.reduceBNe, Nat.reduceBEq, Int.cast_ofNat_Int, decide_true, decide_false, ne_eq, eq_self_iff_true, beq_eq_false_iff_ne, bne_iff_ne, List.replicate, encOT, *]
             done)
        | (with_reducible refine ite_in (fun _ => ?_) (fun _ => ?_))
        | (with_reducible refine ⟨fun _ => ?_, fun _ => ?_⟩)
        | (with_reducible refine And.intro ?_ ?_)
        | (with_reducible intro _)
        | (with_reducible exact is_in _)
        | ((with_reducible refine eq_in ?_); (first | (simp_all [chkF, okPrev, validR, numB]; done) | (simp_all [chkF, okPrev, validR, numB]; omega) | grind [chkF, okPrev, validR, numB]); done)
        | (simp -implicitDefEqProofs only [SD, SF, SL, e_nf, reduceCtorEq, implies_true, ↓reduceIte, Nat.reduceEqDiff, Nat.reduceAdd, Nat.reduceMul, Nat.reduceSub, Nat.reduceLeDiff, Nat.reduceLT, Int.reduceLT, Int.reduceLE, Int.reduceEq, Int.reduceToNat, Int.reduceAdd, Int.reduceSub, Int.reduceNeg, Int.reduceBEq, Int.reduceBNe, Nat.reduceBEq, Int.cast_ofNat_Int, decide_true, decide_false, ne_eq, eq_self_iff_true, beq_eq_false_iff_ne, bne_iff_ne, List.replicate, encOT, *]))))
      all_goals (simp_all [chkF])

    | cons x rest =>
      have hlt := cut_lt he
      have hx := cutD encOT he
      simp only [encOT] at hx
      simp -implicitDefEqProofs only [SD, SF, SL, e_nf, reduceCtorEq, implies_true, ↓reduceIte, Nat.reduceEqDiff, Nat.reduceAdd, Nat.reduceMul, Nat.reduceSub, Nat.reduceLeDiff, Nat.reduceLT, Int.reduceLT, Int.reduceLE, Int.reduceEq, Int.reduceToNat, Int.reduceAdd, Int.reduceSub, Int.reduceNeg, Int.reduceBEq, Int.reduceBNe, Nat.reduceBEq, Int.cast_ofNat_Int, decide_true, decide_false, ne_eq, eq_self_iff_true, beq_eq_false_iff_ne, bne_iff_ne, List.replicate, encOT, hlt]
      intro hl
      have hw := wrap_len (n := pre.length) (m := (l).length) (cut_lt' he) (by simpa using hl)
      replace he := Hd.mk he
      rcases prev_cases (enc := encOT) he.out hl with ⟨hgl, hp0⟩ | ⟨p, hgl, hp0, hpv, hpl, hpw⟩
      iterate 30 (all_goals (try (first
        | ((with_reducible refine back_in rest.length [2, 4, 5, 6, 7, 8, 9, 10, 11, 12, 13, 14, 15, 16, 17, 18, 19, 20, 21, 22, 23, 24, 25, 26, 27, 28, 29, 30, 31, 32, 33, 34, 35, 36, 37, 38, 39, 40, 41, 42, 43, 44, 45, 46, 47, 48, 49, 50, 51, 52, 53, 54, 55] [4] (pre ++ [x], rest, a) ?_ ⟨?_, ?_, ?_⟩ ?_)
           · simp
           · exact cut_snoc he.out
           · rfl
           · first | rfl | (simp_all [chkF, okPrev, validR, numB]; done) | grind [chkF, okPrev, validR, numB]
           · first | (simp -implicitDefEqProofs only [SD, SF, SL, e_nf, reduceCtorEq, implies_true, ↓reduceIte, Nat.reduceEqDiff, Nat.reduceAdd, Nat.reduceMul, Nat.reduceSub, Nat.reduceLeDiff, Nat.reduceLT, Int.reduceLT, Int.reduceLE, Int.reduceEq, Int.reduceToNat, Int.reduceAdd, Int.reduceSub, Int.reduceNeg, Int.reduceBEq, Int.reduceBNe, Nat.reduceBEq, Int.cast_ofNat_Int, decide_true, decide_false, ne_eq, eq_self_iff_true, beq_eq_false_iff_ne, bne_iff_ne, List.replicate, encOT] <;> simp <;> done) | (simp -implicitDefEqProofs only [SD, SF, SL, e_nf, reduceCtorEq, implies_true, ↓reduceIte, Nat.reduceEqDiff, Nat.reduceAdd, Nat.reduceMul, Nat.reduceSub, Nat.reduceLeDiff, Nat.reduceLT, Int.reduceLT, Int.reduceLE, Int.reduceEq, Int.reduceToNat, Int.reduceAdd, Int.reduceSub, Int.reduceNeg, Int.reduceBEq, Int.reduceBNe, Nat.reduceBEq, Int.cast_ofNat_Int, decide_true, decide_false, ne_eq, eq_self_iff_true, beq_eq_false_iff_ne, bne_iff_ne, List.replicate, encOT, *] <;> simp_all <;> done))
        | ((with_reducible refine of_kSpec ?_); refine call_fz (spec23 _ _) rfl ?_)
        | ((with_reducible refine of_kSpec ?_)
           refine call_sub (ds' := [.agg (encOT p), .str x.user, .str x.dev]) (spec24 p x.user x.dev) rfl ?_ ?_
           · simp -implicitDefEqProofs only [SD, SF, SL, e_nf, reduceCtorEq, implies_true, ↓reduceIte, Nat.reduceEqDiff, Nat.reduceAdd, Nat.reduceMul, Nat.reduceSub, Nat.reduceLeDiff, Nat.reduceLT, Int.reduceLT, Int.reduceLE, Int.reduceEq, Int.reduceToNat, Int.reduceAdd, Int.reduceSub, Int.reduceNeg, Int.reduceBEq, Int.reduceBNe, Nat.reduceBEq, Int.cast_ofNat_Int, decide_true, decide_false, ne_eq, eq_self_iff_true, beq_eq_false_iff_ne, bne_iff_ne, List.replicate, encOT, *]
             done)
        | (with_reducible refine ite_in (fun _ => ?_) (fun _ => ?_))
        | (with_reducible refine ⟨fun _ => ?_, fun _ => ?_⟩)
        | (with_reducible refine And.intro ?_ ?_)
        | (with_reducible intro _)
        | (with_reducible exact is_in _)
        | ((with_reducible refine eq_in ?_); (first | (simp_all [chkF, okPrev, validR, numB]; done) | (simp_all [chkF, okPrev, validR, numB]; omega) | grind [chkF, okPrev, validR, numB]); done)
        | (simp -implicitDefEqProofs only [SD, SF, SL, e_nf, reduceCtorEq, implies_true, ↓reduceIte, Nat.reduceEqDiff, Nat.reduceAdd, Nat.reduceMul, Nat.reduceSub, Nat.reduceLeDiff, Nat.reduceLT, Int.reduceLT, Int.reduceLE, Int.reduceEq, Int.reduceToNat, Int.reduceAdd, Int.reduceSub, Int.reduceNeg, Int.reduceBEq, Int.reduceBNe, Nat.reduceBEq, Int.cast_ofNat_Int, decide_true, decide_false, ne_eq, eq_self_iff_true, beq_eq_false_iff_ne, bne_iff_ne, List.replicate, encOT, *]))))

end Go.Proofs.Ytcjlkbffmggekaa.E
