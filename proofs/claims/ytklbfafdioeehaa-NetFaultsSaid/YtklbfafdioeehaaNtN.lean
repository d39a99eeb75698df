/-
  NtN: walks of functions of the program at data level.
-/
import Derived.Test.YtklbfafdioeehaaProg
import Derived.Test.YtklbfafdioeehaaEngZ
import Derived.Test.YtklbfafdioeehaaNtM
import Derived.KernelRfl
set_option linter.unusedVariables false
set_option linter.unusedSimpArgs false
namespace Go.Proofs.Ytklbfafdioeehaa.E
open Go
set_option maxHeartbeats 4000000
set_option maxRecDepth 100000
set_option linter.unusedSimpArgs false
set_option linter.unusedVariables false
attribute [local congr] c_wp c_ops c_op c_opS c_run c_runS c_dt c_seq c_blk c_loop c_S c_put c_bind c_mv c_pick c_nt c_ng c_bin c_binI c_binS c_beq c_B c_eqa c_hd c_cells c_blkK c_box c_vec c_mp c_nck c_mks c_appn c_mkm c_mput c_mlk c_mrm c_take c_ld c_ldF c_cellsK c_st c_fld c_fldv c_ix c_ixp c_ixv c_ixs c_sub c_subs c_len c_lens c_src c_dst c_ow c_app c_ext c_mm c_conv c_str c_isn c_fill c_rows c_boxo c_frz c_frzO c_frzA c_frzV c_spec c_specO c_opsP c_opP c_runP c_specP c_Z c_qretP c_fz c_fn c_gv c_cond c_res1 c_resL c_ret c_qret c_ite c_unr c_nx c_bk c_cut c_is
attribute [local irreducible] dwp
def ac9 : AC := (.seq (.ops [⟨(some 1), none, (.box (.t 0))⟩, ⟨(some 2), none, (.mv (.c (.bool false)))⟩]) (.seq (.seq (.ops [⟨(some 5), none, (.fld 0 (.t 1))⟩, ⟨(some 6), none, (.ld false 1 (.t 5))⟩, ⟨(some 7), none, (.len (.t 6))⟩, ⟨(some 8), none, (.bin .gtr (.t 7) (.c (.int .i64 1010)))⟩, ⟨(some 9), none, (.mv (.t 8))⟩, ⟨(some 10), (some (9, false)), (.fld 1 (.t 1))⟩, ⟨(some 11), (some (9, false)), (.ld false 1 (.t 10))⟩, ⟨(some 12), (some (9, false)), (.len (.t 11))⟩, ⟨(some 13), (some (9, false)), (.bin .gtr (.t 12) (.c (.int .i64 30)))⟩, ⟨(some 14), none, (.pick (.t 9) (.c (.bool true)) (.t 13))⟩]) (.cond (.t 14) (.seq (.ops [⟨(some 2), none, (.mv (.c (.bool true)))⟩]) .ret) .skip)) (.seq (.seq (.ops [⟨(some 3), none, (.mv (.c (.int .i64 0)))⟩]) (.block 0 (.loop (.seq (.seq (.ops [⟨(some 15), none, (.mv (.t 3))⟩, ⟨(some 16), none, (.fld 0 (.t 1))⟩, ⟨(some 17), none, (.ld false 1 (.t 16))⟩, ⟨(some 18), none, (.len (.t 17))⟩, ⟨(some 19), none, (.bin .lss (.t 15) (.t 18))⟩]) (.cond (.t 19) .skip (.exit 0))) (.seq (.block 1 (.seq (.ops [⟨(some 22), none, (.fld 0 (.t 1))⟩, ⟨(some 23), none, (.ld false 1 (.t 22))⟩, ⟨(some 24), none, (.mv (.t 3))⟩, ⟨(some 25), none, (.ix 10 (.t 23) (.t 24))⟩, ⟨(some 26), none, (.ld true 10 (.t 25))⟩, ⟨(some 27), none, (.call false 10 [(.t 26)])⟩, ⟨(some 28), none, (.mv (.t 27))⟩, ⟨(some 29), (some (28, false)), (.fld 0 (.t 1))⟩, ⟨(some 30), (some (28, false)), (.ld false 1 (.t 29))⟩, ⟨(some 31), (some (28, false)), (.len (.t 30))⟩, ⟨(some 32), (some (28, false)), (.bin .gtr (.t 31) (.c (.int .i64 20)))⟩, ⟨(some 33), (some (28, false)), (.mv (.t 32))⟩, ⟨(some 34), (some (33, true)), (.fld 0 (.t 1))⟩, ⟨(some 35), (some (33, true)), (.ld false 1 (.t 34))⟩, ⟨(some 36), (some (33, true)), (.mv (.t 3))⟩, ⟨(some 37), (some (33, true)), (.ix 10 (.t 35) (.t 36))⟩, ⟨(some 38), (some (33, true)), (.fld 5 (.t 37))⟩, ⟨(some 39), (some (33, true)), (.ld false 1 (.t 38))⟩, ⟨(some 40), (some (33, true)), (.len (.t 39))⟩, ⟨(some 41), (some (33, true)), (.bin .gtr (.t 40) (.c (.int .i64 0)))⟩, ⟨(some 42), (some (33, true)), (.mv (.t 41))⟩, ⟨(some 43), (some (42, false)), (.fld 0 (.t 1))⟩, ⟨(some 44), (some (42, false)), (.ld false 1 (.t 43))⟩, ⟨(some 45), (some (42, false)), (.mv (.t 3))⟩, ⟨(some 46), (some (42, false)), (.ix 10 (.t 44) (.t 45))⟩, ⟨(some 47), (some (42, false)), (.fld 7 (.t 46))⟩, ⟨(some 48), (some (42, false)), (.ld false 1 (.t 47))⟩, ⟨(some 49), (some (42, false)), (.len (.t 48))⟩, ⟨(some 50), (some (42, false)), (.bin .gtr (.t 49) (.c (.int .i64 0)))⟩, ⟨(some 51), (some (33, true)), (.pick (.t 42) (.c (.bool true)) (.t 50))⟩, ⟨(some 52), (some (33, true)), (.mv (.t 51))⟩, ⟨(some 53), (some (52, false)), (.fld 0 (.t 1))⟩, ⟨(some 54), (some (52, false)), (.ld false 1 (.t 53))⟩, ⟨(some 55), (some (52, false)), (.mv (.t 3))⟩, ⟨(some 56), (some (52, false)), (.ix 10 (.t 54) (.t 55))⟩, ⟨(some 57), (some (52, false)), (.fld 6 (.t 56))⟩, ⟨(some 58), (some (52, false)), (.ld false 1 (.t 57))⟩, ⟨(some 59), (some (52, false)), (.len (.t 58))⟩, ⟨(some 60), (some (52, false)), (.bin .gtr (.t 59) (.c (.int .i64 0)))⟩, ⟨(some 61), (some (33, true)), (.pick (.t 52) (.c (.bool true)) (.t 60))⟩, ⟨(some 62), (some (28, false)), (.pick (.t 33) (.t 61) (.c (.bool false)))⟩, ⟨(some 63), none, (.pick (.t 28) (.c (.bool true)) (.t 62))⟩]) (.cond (.t 63) (.seq (.ops [⟨(some 2), none, (.mv (.c (.bool true)))⟩]) .ret) .skip))) (.ops [⟨(some 20), none, (.mv (.t 3))⟩, ⟨(some 21), none, (.bin .add (.t 20) (.c (.int .i64 1)))⟩, ⟨(some 3), none, (.mv (.t 21))⟩])))))) (.seq (.seq (.ops [⟨(some 4), none, (.mv (.c (.int .i64 0)))⟩]) (.block 2 (.loop (.seq (.seq (.ops [⟨(some 64), none, (.mv (.t 4))⟩, ⟨(some 65), none, (.fld 1 (.t 1))⟩, ⟨(some 66), none, (.ld false 1 (.t 65))⟩, ⟨(some 67), none, (.len (.t 66))⟩, ⟨(some 68), none, (.bin .lss (.t 64) (.t 67))⟩]) (.cond (.t 68) .skip (.exit 2))) (.seq (.block 3 (.seq (.ops [⟨(some 71), none, (.fld 1 (.t 1))⟩, ⟨(some 72), none, (.ld false 1 (.t 71))⟩, ⟨(some 73), none, (.mv (.t 4))⟩, ⟨(some 74), none, (.ix 2 (.t 72) (.t 73))⟩, ⟨(some 75), none, (.ixp 2 1 (.t 74) (.c (.int .i64 0)))⟩, ⟨(some 76), none, (.ld false 1 (.t 75))⟩, ⟨(some 77), none, (.lens (.t 76))⟩, ⟨(some 78), none, (.bin .gtr (.t 77) (.c (.int .i64 100)))⟩, ⟨(some 79), none, (.mv (.t 78))⟩, ⟨(some 80), (some (79, false)), (.fld 1 (.t 1))⟩, ⟨(some 81), (some (79, false)), (.ld false 1 (.t 80))⟩, ⟨(some 82), (some (79, false)), (.mv (.t 4))⟩, ⟨(some 83), (some (79, false)), (.ix 2 (.t 81) (.t 82))⟩, ⟨(some 84), (some (79, false)), (.ixp 2 1 (.t 83) (.c (.int .i64 1)))⟩, ⟨(some 85), (some (79, false)), (.ld false 1 (.t 84))⟩, ⟨(some 86), (some (79, false)), (.lens (.t 85))⟩, ⟨(some 87), (some (79, false)), (.bin .gtr (.t 86) (.c (.int .i64 100)))⟩, ⟨(some 88), none, (.pick (.t 79) (.c (.bool true)) (.t 87))⟩]) (.cond (.t 88) (.seq (.ops [⟨(some 2), none, (.mv (.c (.bool true)))⟩]) .ret) .skip))) (.ops [⟨(some 69), none, (.mv (.t 4))⟩, ⟨(some 70), none, (.bin .add (.t 69) (.c (.int .i64 1)))⟩, ⟨(some 4), none, (.mv (.t 70))⟩])))))) (.seq (.ops [⟨(some 2), none, (.mv (.c (.bool false)))⟩]) .ret)))))
theorem tr9 : Try.f9.body.bind (trCode Try.prog) = some (strip ac9) := by kernel_rfl
theorem spec9 (nw : Ntw) : Spec Try.prog 9 [.fz (.agg (encNw nw))] (.fz (.bool (greatN nw))) := by
  refine spec_at (n := 88) (ars := [(.t 2)]) (ac := ac9) Try.func9 (by kernel_rfl) (by kernel_rfl) tr9 (by kernel_rfl) ?_
  unfold ac9
  iterate 30 (all_goals (try (first
    | (with_reducible refine ite_in (fun _ => ?_) (fun _ => ?_))
    | (with_reducible refine ⟨fun _ => ?_, fun _ => ?_⟩)
    | (with_reducible refine And.intro ?_ ?_)
    | (with_reducible intro _)
    | (with_reducible exact is_in _)
    | ((with_reducible refine eq_in ?_); (first | exact dT (by omega) | (simp_all [greatN]; done)); done)
    | (simp -implicitDefEqProofs only [SD, SF, SL, e_nf, reduceCtorEq, implies_true, ↓reduceIte, Nat.reduceEqDiff, Nat.reduceAdd, Nat.reduceMul, Nat.reduceSub, Nat.reduceLeDiff, Nat.reduceLT, Int.reduceLT, Int.reduceLE, Int.reduceEq, Int.reduceToNat, Int.reduceAdd, Int.reduceSub, Int.reduceNeg, Int.reduceBEq, Int.reduceBNe, Nat.reduceBEq, Int.cast_ofNat_Int, decide_true, decide_false, ne_eq, eq_self_iff_true, beq_eq_false_iff_ne, bne_iff_ne, List.replicate, encNw, *]))))
  refine loop_q (X := List Pk × List Pk × Unit) (fun n x => nw.packets = x.1 ++ x.2.1 ∧ n = x.2.1.length ∧ (x.1.any (longN nw.packets.length) = false)) (fun x => [(3, .int .i64 x.1.length)]) (fun _ => []) [2, 15, 16, 17, 18, 19, 20, 21, 22, 23, 24, 25, 26, 27, 28, 29, 30, 31, 32, 33, 34, 35, 36, 37, 38, 39, 40, 41, 42, 43, 44, 45, 46, 47, 48, 49, 50, 51, 52, 53, 54, 55, 56, 57, 58, 59, 60, 61, 62, 63] []  (nw.packets).length ([], nw.packets, ()) ⟨rfl, rfl, by first | rfl | exact any_snoc hI1 (by first | (simp_all [longN]; done) | (simp_all [longN]; omega) | (simp_all [longN]; grind))⟩ ?_ ?_
  · simp -implicitDefEqProofs only [SD, SF, SL, e_nf, reduceCtorEq, implies_true, ↓reduceIte, Nat.reduceEqDiff, Nat.reduceAdd, Nat.reduceMul, Nat.reduceSub, Nat.reduceLeDiff, Nat.reduceLT, Int.reduceLT, Int.reduceLE, Int.reduceEq, Int.reduceToNat, Int.reduceAdd, Int.reduceSub, Int.reduceNeg, Int.reduceBEq, Int.reduceBNe, Nat.reduceBEq, Int.cast_ofNat_Int, decide_true, decide_false, ne_eq, eq_self_iff_true, beq_eq_false_iff_ne, bne_iff_ne, List.replicate, encNw] <;> simp
  · rintro n ⟨pre1, rest1, a1⟩ ⟨he1, rfl, hI1⟩
    dsimp only at he1 hI1
    cases rest1 with
    | nil =>
      obtain rfl : nw.packets = pre1 := by simpa using he1
      clear he1
      have hlt1 : ¬ (((nw.packets).length : Int) < ((nw.packets).length : Int)) := Int.lt_irrefl _
      iterate 30 (all_goals (try (first
        | (with_reducible refine ite_in (fun _ => ?_) (fun _ => ?_))
        | (with_reducible refine ⟨fun _ => ?_, fun _ => ?_⟩)
        | (with_reducible refine And.intro ?_ ?_)
        | (with_reducible intro _)
        | (with_reducible exact is_in _)
        | ((with_reducible refine eq_in ?_); ((have hq := any_cut (p := longN nw.packets.length) he1.out (by first | (simp_all [longN]; done) | (simp_all [longN]; omega) | (simp_all [longN]; grind)); simp [greatN, hq]; done)); done)
        | (simp -implicitDefEqProofs only [SD, SF, SL, e_nf, reduceCtorEq, implies_true, ↓reduceIte, Nat.reduceEqDiff, Nat.reduceAdd, Nat.reduceMul, Nat.reduceSub, Nat.reduceLeDiff, Nat.reduceLT, Int.reduceLT, Int.reduceLE, Int.reduceEq, Int.reduceToNat, Int.reduceAdd, Int.reduceSub, Int.reduceNeg, Int.reduceBEq, Int.reduceBNe, Nat.reduceBEq, Int.cast_ofNat_Int, decide_true, decide_false, ne_eq, eq_self_iff_true, beq_eq_false_iff_ne, bne_iff_ne, List.replicate, encNw, *]))))
      refine loop_q (X := List Lk × List Lk × Unit) (fun n x => nw.cuts = x.1 ++ x.2.1 ∧ n = x.2.1.length ∧ (x.1.any (lenK) = false)) (fun x => [(4, .int .i64 x.1.length)]) (fun _ => []) [2, 64, 65, 66, 67, 68, 69, 70, 71, 72, 73, 74, 75, 76, 77, 78, 79, 80, 81, 82, 83, 84, 85, 86, 87, 88] []  (nw.cuts).length ([], nw.cuts, ()) ⟨rfl, rfl, by first | rfl | exact any_snoc hI2 (by first | (simp_all [lenK]; done) | (simp_all [lenK]; omega) | (simp_all [lenK]; grind))⟩ ?_ ?_
      · simp -implicitDefEqProofs only [SD, SF, SL, e_nf, reduceCtorEq, implies_true, ↓reduceIte, Nat.reduceEqDiff, Nat.reduceAdd, Nat.reduceMul, Nat.reduceSub, Nat.reduceLeDiff, Nat.reduceLT, Int.reduceLT, Int.reduceLE, Int.reduceEq, Int.reduceToNat, Int.reduceAdd, Int.reduceSub, Int.reduceNeg, Int.reduceBEq, Int.reduceBNe, Nat.reduceBEq, Int.cast_ofNat_Int, decide_true, decide_false, ne_eq, eq_self_iff_true, beq_eq_false_iff_ne, bne_iff_ne, List.replicate, encNw] <;> simp
      · rintro n ⟨pre2, rest2, a2⟩ ⟨he2, rfl, hI2⟩
        dsimp only at he2 hI2
        cases rest2 with
        | nil =>
          obtain rfl : nw.cuts = pre2 := by simpa using he2
          clear he2
          have hlt2 : ¬ (((nw.cuts).length : Int) < ((nw.cuts).length : Int)) := Int.lt_irrefl _
          iterate 30 (all_goals (try (first
            | (with_reducible refine ite_in (fun _ => ?_) (fun _ => ?_))
            | (with_reducible refine ⟨fun _ => ?_, fun _ => ?_⟩)
            | (with_reducible refine And.intro ?_ ?_)
            | (with_reducible intro _)
            | (with_reducible exact is_in _)
            | ((with_reducible refine eq_in ?_); ((have hq := any_cut (p := lenK) he2.out (by first | (simp_all [lenK]; done) | (simp_all [lenK]; omega) | (simp_all [lenK]; grind)); simp [greatN, hq]; done)); done)
            | (simp -implicitDefEqProofs only [SD, SF, SL, e_nf, reduceCtorEq, implies_true, ↓reduceIte, Nat.reduceEqDiff, Nat.reduceAdd, Nat.reduceMul, Nat.reduceSub, Nat.reduceLeDiff, Nat.reduceLT, Int.reduceLT, Int.reduceLE, Int.reduceEq, Int.reduceToNat, Int.reduceAdd, Int.reduceSub, Int.reduceNeg, Int.reduceBEq, Int.reduceBNe, Nat.reduceBEq, Int.cast_ofNat_Int, decide_true, decide_false, ne_eq, eq_self_iff_true, beq_eq_false_iff_ne, bne_iff_ne, List.replicate, encNw, *]))))
          refine Eq.symm ?_
          unfold greatN
          rw [hI1, hI2]
          simp only [Bool.or_false, decide_eq_false_iff_not]
          omega
        | cons x2 rest2 =>
          have hlt2 := cut_lt he2
          have hx2 := cutD encLk he2
          simp only [encLk] at hx2
          simp -implicitDefEqProofs only [SD, SF, SL, e_nf, reduceCtorEq, implies_true, ↓reduceIte, Nat.reduceEqDiff, Nat.reduceAdd, Nat.reduceMul, Nat.reduceSub, Nat.reduceLeDiff, Nat.reduceLT, Int.reduceLT, Int.reduceLE, Int.reduceEq, Int.reduceToNat, Int.reduceAdd, Int.reduceSub, Int.reduceNeg, Int.reduceBEq, Int.reduceBNe, Nat.reduceBEq, Int.cast_ofNat_Int, decide_true, decide_false, ne_eq, eq_self_iff_true, beq_eq_false_iff_ne, bne_iff_ne, List.replicate, encNw, hlt2]
          intro hl
          have hw2 := wrap_len (n := pre2.length) (m := (nw.cuts).length) (cut_lt' he2) (by simpa using hl)
          replace he2 := Hd.mk he2
          iterate 30 (all_goals (try (first
            | ((with_reducible refine back_in rest2.length [2, 64, 65, 66, 67, 68, 69, 70, 71, 72, 73, 74, 75, 76, 77, 78, 79, 80, 81, 82, 83, 84, 85, 86, 87, 88] [] (pre2 ++ [x2], rest2, a2) ?_ ⟨?_, ?_, ?_⟩ ?_)
               · simp
               · exact cut_snoc he2.out
               · rfl
               · first | rfl | exact any_snoc hI2 (by first | (simp_all [lenK]; done) | (simp_all [lenK]; omega) | (simp_all [lenK]; grind))
               · first | (simp -implicitDefEqProofs only [SD, SF, SL, e_nf, reduceCtorEq, implies_true, ↓reduceIte, Nat.reduceEqDiff, Nat.reduceAdd, Nat.reduceMul, Nat.reduceSub, Nat.reduceLeDiff, Nat.reduceLT, Int.reduceLT, Int.reduceLE, Int.reduceEq, Int.reduceToNat, Int.reduceAdd, Int.reduceSub, Int.reduceNeg, Int.reduceBEq, Int.reduceBNe, Nat.reduceBEq, Int.cast_ofNat_Int, decide_true, decide_false, ne_eq, eq_self_iff_true, beq_eq_false_iff_ne, bne_iff_ne, List.replicate, encNw] <;> simp <;> done) | (simp -implicitDefEqProofs only [SD, SF, SL, e_nf, reduceCtorEq, implies_true, ↓reduceIte, Nat.reduceEqDiff, Nat.reduceAdd, Nat.reduceMul, Nat.reduceSub, Nat.reduceLeDiff, Nat.reduceLT, Int.reduceLT, Int.reduceLE, Int.reduceEq, Int.reduceToNat, Int.reduceAdd, Int.reduceSub, Int.reduceNeg, Int.reduceBEq, Int.reduceBNe, Nat.reduceBEq, Int.cast_ofNat_Int, decide_true, decide_false, ne_eq, eq_self_iff_true, beq_eq_false_iff_ne, bne_iff_ne, List.replicate, encNw, *] <;> simp_all <;> done))
            | (with_reducible refine ite_in (fun _ => ?_) (fun _ => ?_))
            | (with_reducible refine ⟨fun _ => ?_, fun _ => ?_⟩)
            | (with_reducible refine And.intro ?_ ?_)
            | (with_reducible intro _)
            | (with_reducible exact is_in _)
            | ((with_reducible refine eq_in ?_); ((have hq := any_cut (p := lenK) he2.out (by first | (simp_all [lenK]; done) | (simp_all [lenK]; omega) | (simp_all [lenK]; grind)); simp [greatN, hq]; done)); done)
            | (simp -implicitDefEqProofs only [SD, SF, SL, e_nf, reduceCtorEq, implies_true, ↓reduceIte, Nat.reduceEqDiff, Nat.reduceAdd, Nat.reduceMul, Nat.reduceSub, Nat.reduceLeDiff, Nat.reduceLT, Int.reduceLT, Int.reduceLE, Int.reduceEq, Int.reduceToNat, Int.reduceAdd, Int.reduceSub, Int.reduceNeg, Int.reduceBEq, Int.reduceBNe, Nat.reduceBEq, Int.cast_ofNat_Int, decide_true, decide_false, ne_eq, eq_self_iff_true, beq_eq_false_iff_ne, bne_iff_ne, List.replicate, encNw, *]))))
    | cons x1 rest1 =>
      have hlt1 := cut_lt he1
      have hx1 := cutD encPk he1
      simp only [encPk] at hx1
      simp -implicitDefEqProofs only [SD, SF, SL, e_nf, reduceCtorEq, implies_true, ↓reduceIte, Nat.reduceEqDiff, Nat.reduceAdd, Nat.reduceMul, Nat.reduceSub, Nat.reduceLeDiff, Nat.reduceLT, Int.reduceLT, Int.reduceLE, Int.reduceEq, Int.reduceToNat, Int.reduceAdd, Int.reduceSub, Int.reduceNeg, Int.reduceBEq, Int.reduceBNe, Nat.reduceBEq, Int.cast_ofNat_Int, decide_true, decide_false, ne_eq, eq_self_iff_true, beq_eq_false_iff_ne, bne_iff_ne, List.replicate, encNw, hlt1]
      intro hl
      have hw1 := wrap_len (n := pre1.length) (m := (nw.packets).length) (cut_lt' he1) (by simpa using hl)
      replace he1 := Hd.mk he1
      iterate 30 (all_goals (try (first
        | ((with_reducible refine back_in rest1.length [2, 15, 16, 17, 18, 19, 20, 21, 22, 23, 24, 25, 26, 27, 28, 29, 30, 31, 32, 33, 34, 35, 36, 37, 38, 39, 40, 41, 42, 43, 44, 45, 46, 47, 48, 49, 50, 51, 52, 53, 54, 55, 56, 57, 58, 59, 60, 61, 62, 63] [] (pre1 ++ [x1], rest1, a1) ?_ ⟨?_, ?_, ?_⟩ ?_)
           · simp
           · exact cut_snoc he1.out
           · rfl
           · first | rfl | exact any_snoc hI1 (by first | (simp_all [longN]; done) | (simp_all [longN]; omega) | (simp_all [longN]; grind))
           · first | (simp -implicitDefEqProofs only [SD, SF, SL, e_nf, reduceCtorEq, implies_true, ↓reduceIte, Nat.reduceEqDiff, Nat.reduceAdd, Nat.reduceMul, Nat.reduceSub, Nat.reduceLeDiff, Nat.reduceLT, Int.reduceLT, Int.reduceLE, Int.reduceEq, Int.reduceToNat, Int.reduceAdd, Int.reduceSub, Int.reduceNeg, Int.reduceBEq, Int.reduceBNe, Nat.reduceBEq, Int.cast_ofNat_Int, decide_true, decide_false, ne_eq, eq_self_iff_true, beq_eq_false_iff_ne, bne_iff_ne, List.replicate, encNw] <;> simp <;> done) | (simp -implicitDefEqProofs only [SD, SF, SL, e_nf, reduceCtorEq, implies_true, ↓reduceIte, Nat.reduceEqDiff, Nat.reduceAdd, Nat.reduceMul, Nat.reduceSub, Nat.reduceLeDiff, Nat.reduceLT, Int.reduceLT, Int.reduceLE, Int.reduceEq, Int.reduceToNat, Int.reduceAdd, Int.reduceSub, Int.reduceNeg, Int.reduceBEq, Int.reduceBNe, Nat.reduceBEq, Int.cast_ofNat_Int, decide_true, decide_false, ne_eq, eq_self_iff_true, beq_eq_false_iff_ne, bne_iff_ne, List.replicate, encNw, *] <;> simp_all <;> done))
        | ((with_reducible refine of_kSpec ?_)
           refine call_sub (ds' := [.agg (encPk x1)]) (spec10 x1) rfl ?_ ?_
           · simp -implicitDefEqProofs only [SD, SF, SL, e_nf, reduceCtorEq, implies_true, ↓reduceIte, Nat.reduceEqDiff, Nat.reduceAdd, Nat.reduceMul, Nat.reduceSub, Nat.reduceLeDiff, Nat.reduceLT, Int.reduceLT, Int.reduceLE, Int.reduceEq, Int.reduceToNat, Int.reduceAdd, Int.reduceSub, Int.reduceNeg, Int.reduceBEq, Int.reduceBNe, Nat.reduceBEq, Int.cast_ofNat_Int, decide_true, decide_false, ne_eq, eq_self_iff_true, beq_eq_false_iff_ne, bne_iff_ne, List.replicate, encPk, *]
             done)
        | (with_reducible refine ite_in (fun _ => ?_) (fun _ => ?_))
        | (with_reducible refine ⟨fun _ => ?_, fun _ => ?_⟩)
        | (with_reducible refine And.intro ?_ ?_)
        | (with_reducible intro _)
        | (with_reducible exact is_in _)
        | ((with_reducible refine eq_in ?_); ((have hq := any_cut (p := longN nw.packets.length) he1.out (by first | (simp_all [longN]; done) | (simp_all [longN]; omega) | (simp_all [longN]; grind)); simp [greatN, hq]; done)); done)
        | (simp -implicitDefEqProofs only [SD, SF, SL, e_nf, reduceCtorEq, implies_true, ↓reduceIte, Nat.reduceEqDiff, Nat.reduceAdd, Nat.reduceMul, Nat.reduceSub, Nat.reduceLeDiff, Nat.reduceLT, Int.reduceLT, Int.reduceLE, Int.reduceEq, Int.reduceToNat, Int.reduceAdd, Int.reduceSub, Int.reduceNeg, Int.reduceBEq, Int.reduceBNe, Nat.reduceBEq, Int.cast_ofNat_Int, decide_true, decide_false, ne_eq, eq_self_iff_true, beq_eq_false_iff_ne, bne_iff_ne, List.replicate, encNw, *]))))

end Go.Proofs.Ytklbfafdioeehaa.E
