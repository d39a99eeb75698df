/-
  NtL: walks of functions of the program at data level.
-/
import Derived.Test.YtklbfafdioeehaaProg
import Derived.Test.YtklbfafdioeehaaEngZ
import Derived.Test.YtklbfafdioeehaaNtD
import Derived.KernelRfl
set_option linter.unusedVariables false
set_option linter.unusedSimpArgs false
namespace Go.Proofs.Ytklbfafdioeehaa.E
open Go
set_option maxHeartbeats 4000000
set_option maxRecDepth 100000
set_option linter.unusedSimpArgs false
set_option linter.unusedVariables false
attribute [local congr] c_wp c_ops c_op c_opS c_run c_runS c_dt c_seq c_blk c_loop c_S c_put c_bind c_mv c_pick c_nt c_ng c_bin c_binI c_binS c_beq c_B c_eqa c_hd c_cells c_blkK c_box c_vec c_mp c_nck c_mks c_appn c_mkm c_mput c_mlk c_mrm c_take c_ld c_ldF c_cellsK c_st c_fld c_fldv c_ix c_ixp c_ixv c_ixs c_sub c_subs c_len c_lens c_src c_dst c_ow c_app c_ext c_mm c_conv c_str c_isn c_fill c_rows c_boxo c_frz c_frzO c_frzA c_frzV c_spec c_specO c_opsP c_opP c_runP c_specP c_Z c_qretP c_fz c_fn c_gv c_cond c_res1 c_resL c_ret c_qret c_ite c_unr c_nx c_bk c_cut c_is
attribute [local irreducible] dwp
def ac37 : AC := (.seq (.ops [⟨(some 4), none, (.mv (.c (.bool false)))⟩]) (.seq (.seq (.ops [⟨(some 6), none, (.mv (.t 0))⟩, ⟨(some 7), none, (.len (.t 6))⟩, ⟨(some 8), none, (.mv (.t 1))⟩, ⟨(some 9), none, (.len (.t 8))⟩, ⟨(some 10), none, (.bin .neq (.t 7) (.t 9))⟩]) (.cond (.t 10) (.seq (.ops [⟨(some 4), none, (.mv (.c (.bool false)))⟩]) .ret) .skip)) (.seq (.seq (.ops [⟨(some 5), none, (.mv (.c (.int .i64 0)))⟩]) (.block 0 (.loop (.seq (.seq (.ops [⟨(some 11), none, (.mv (.t 5))⟩, ⟨(some 12), none, (.mv (.t 0))⟩, ⟨(some 13), none, (.len (.t 12))⟩, ⟨(some 14), none, (.bin .lss (.t 11) (.t 13))⟩]) (.cond (.t 14) .skip (.exit 0))) (.seq (.block 1 (.seq (.draw (.q false ⟨(some 17), none, (.mv (.t 0))⟩ (.q false ⟨(some 18), none, (.mv (.t 5))⟩ (.q false ⟨(some 19), none, (.ix 29 (.t 17) (.t 18))⟩ (.q false ⟨(some 20), none, (.ld true 29 (.t 19))⟩ (.q false ⟨(some 21), none, (.mv (.t 1))⟩ (.q false ⟨(some 22), none, (.mv (.t 5))⟩ (.q false ⟨(some 23), none, (.ix 29 (.t 21) (.t 22))⟩ (.q false ⟨(some 24), none, (.ld true 29 (.t 23))⟩ (.op ⟨(some 25), none, (.call false 41 [(.t 20), (.t 24)])⟩ (.q false ⟨(some 26), none, (.nt (.t 25))⟩ .nil))))))))))) (.cond (.t 26) (.seq (.ops [⟨(some 4), none, (.mv (.c (.bool false)))⟩]) .ret) .skip))) (.ops [⟨(some 15), none, (.mv (.t 5))⟩, ⟨(some 16), none, (.bin .add (.t 15) (.c (.int .i64 1)))⟩, ⟨(some 5), none, (.mv (.t 16))⟩])))))) (.seq (.ops [⟨(some 4), none, (.mv (.c (.bool true)))⟩]) .ret))))
theorem tr37 : Try.f37.body.bind (trCode Try.prog) = some (strip ac37) := by kernel_rfl
theorem spec37 (a b : List Ev) : Spec Try.prog 37 [.fz (.sl 29 (a.map encEv)), .fz (.sl 29 (b.map encEv))] (.fz (.bool (decide (a = b)))) := by
  refine spec_at (n := 25) (ars := [(.t 4)]) (ac := ac37) Try.func37 (by kernel_rfl) (by kernel_rfl) tr37 (by kernel_rfl) ?_
  unfold ac37
  simp -implicitDefEqProofs only [SD, SF, SL, e_nf, reduceCtorEq, implies_true, ↓reduceIte, Nat.reduceEqDiff, Nat.reduceAdd, Nat.reduceMul, Nat.reduceSub, Nat.reduceLeDiff, Nat.reduceLT, Int.reduceLT, Int.reduceLE, Int.reduceEq, Int.reduceToNat, Int.reduceAdd, Int.reduceSub, Int.reduceNeg, Int.reduceBEq, Int.reduceBNe, Nat.reduceBEq, Int.cast_ofNat_Int, decide_true, decide_false, ne_eq, eq_self_iff_true, beq_eq_false_iff_ne, bne_iff_ne, List.replicate, len_cast]
  intro _ _
  by_cases h : a.length = b.length
  · obtain ⟨z, rfl, rfl⟩ := zip_of_len h
    rw [eqz_dec]
    simp -implicitDefEqProofs only [SD, SF, SL, e_nf, reduceCtorEq, implies_true, ↓reduceIte, Nat.reduceEqDiff, Nat.reduceAdd, Nat.reduceMul, Nat.reduceSub, Nat.reduceLeDiff, Nat.reduceLT, Int.reduceLT, Int.reduceLE, Int.reduceEq, Int.reduceToNat, Int.reduceAdd, Int.reduceSub, Int.reduceNeg, Int.reduceBEq, Int.reduceBNe, Nat.reduceBEq, Int.cast_ofNat_Int, decide_true, decide_false, ne_eq, eq_self_iff_true, beq_eq_false_iff_ne, bne_iff_ne, List.replicate, len_cast, h]
    refine loop_q (X := List (Ev × Ev) × List (Ev × Ev) × Unit) (fun n x => z = x.1 ++ x.2.1 ∧ n = x.2.1.length ∧ (eqz x.1)) (fun x => [(5, .int .i64 x.1.length)]) (fun _ => []) [4, 11, 12, 13, 14, 15, 16, 17, 18, 19, 20, 21, 22, 23, 24, 25, 26] []  (z).length ([], z, ()) ⟨rfl, rfl, by first | rfl | assumption | (simp_all [eqz_end, eqz_mid, eqz_nil]; done) | grind [eqz_end, eqz_mid, eqz_nil]⟩ ?_ ?_
    · simp -implicitDefEqProofs only [SD, SF, SL, e_nf, reduceCtorEq, implies_true, ↓reduceIte, Nat.reduceEqDiff, Nat.reduceAdd, Nat.reduceMul, Nat.reduceSub, Nat.reduceLeDiff, Nat.reduceLT, Int.reduceLT, Int.reduceLE, Int.reduceEq, Int.reduceToNat, Int.reduceAdd, Int.reduceSub, Int.reduceNeg, Int.reduceBEq, Int.reduceBNe, Nat.reduceBEq, Int.cast_ofNat_Int, decide_true, decide_false, ne_eq, eq_self_iff_true, beq_eq_false_iff_ne, bne_iff_ne, List.replicate, eqz_end, eqz_mid, eqz_nil] <;> simp
    · rintro n ⟨pre, rest, a⟩ ⟨he, rfl, hI⟩
      dsimp only at he hI
      cases rest with
      | nil =>
        obtain rfl : z = pre := by simpa using he
        clear he
        have hlt : ¬ (((z).length : Int) < ((z).length : Int)) := Int.lt_irrefl _
        iterate 30 (all_goals (try (first
          | ((with_reducible refine of_kSpec ?_)
             refine call_sub (ds' := [.agg (encEv x.1), .agg (encEv x.2)]) (spec41 x.1 x.2) rfl ?_ ?_
             · simp -implicitDefEqProofs only [SD, SF, SL, e_nf, reduceCtorEq, implies_true, ↓reduceIte, Nat.reduceEqDiff, Nat.reduceAdd, Nat.reduceMul, Nat.reduceSub, Nat.reduceLeDiff, Nat.reduceLT, Int.reduceLT, Int.reduceLE, Int.reduceEq, Int.reduceToNat, Int.reduceAdd, Int.reduceSub, Int.reduceNeg, Int.reduceBEq, Int.reduceBNe, Nat.reduceBEq, Int.cast_ofNat_Int, decide_true, decide_false, ne_eq, eq_self_iff_true, beq_eq_false_iff_ne, bne_iff_ne, List.replicate, encEv, *]
               done)
          | (with_reducible refine ite_in (fun _ => ?_) (fun _ => ?_))
          | (with_reducible refine ⟨fun _ => ?_, fun _ => ?_⟩)
          | (with_reducible refine And.intro ?_ ?_)
          | (with_reducible intro _)
          | (with_reducible exact is_in _)
          | (simp -implicitDefEqProofs only [SD, SF, SL, e_nf, reduceCtorEq, implies_true, ↓reduceIte, Nat.reduceEqDiff, Nat.reduceAdd, Nat.reduceMul, Nat.reduceSub, Nat.reduceLeDiff, Nat.reduceLT, Int.reduceLT, Int.reduceLE, Int.reduceEq, Int.reduceToNat, Int.reduceAdd, Int.reduceSub, Int.reduceNeg, Int.reduceBEq, Int.reduceBNe, Nat.reduceBEq, Int.cast_ofNat_Int, decide_true, decide_false, ne_eq, eq_self_iff_true, beq_eq_false_iff_ne, bne_iff_ne, List.replicate, eqz_end, eqz_mid, eqz_nil, *]))))
        all_goals (simp_all [eqz_end, eqz_mid, eqz_nil])

      | cons x rest =>
        have hlt := cut_lt he
        have hx := cutD1 encEv he
        have hy := cutD2 encEv he
        have hez := eqz_mid pre x rest
        rw [← he] at hez
        simp only [encEv] at hx hy
        simp -implicitDefEqProofs only [SD, SF, SL, e_nf, reduceCtorEq, implies_true, ↓reduceIte, Nat.reduceEqDiff, Nat.reduceAdd, Nat.reduceMul, Nat.reduceSub, Nat.reduceLeDiff, Nat.reduceLT, Int.reduceLT, Int.reduceLE, Int.reduceEq, Int.reduceToNat, Int.reduceAdd, Int.reduceSub, Int.reduceNeg, Int.reduceBEq, Int.reduceBNe, Nat.reduceBEq, Int.cast_ofNat_Int, decide_true, decide_false, ne_eq, eq_self_iff_true, beq_eq_false_iff_ne, bne_iff_ne, List.replicate, eqz_end, eqz_mid, eqz_nil, hlt]
        intro hl
        have hw := wrap_len (n := pre.length) (m := (z).length) (cut_lt' he) (by simpa using hl)
        replace he := Hd.mk he
        iterate 30 (all_goals (try (first
          | ((with_reducible refine back_in rest.length [4, 11, 12, 13, 14, 15, 16, 17, 18, 19, 20, 21, 22, 23, 24, 25, 26] [] (pre ++ [x], rest, a) ?_ ⟨?_, ?_, ?_⟩ ?_)
             · simp
             · exact cut_snoc he.out
             · rfl
             · first | rfl | assumption | (simp_all [eqz_end, eqz_mid, eqz_nil]; done) | grind [eqz_end, eqz_mid, eqz_nil]
             · first | (simp -implicitDefEqProofs only [SD, SF, SL, e_nf, reduceCtorEq, implies_true, ↓reduceIte, Nat.reduceEqDiff, Nat.reduceAdd, Nat.reduceMul, Nat.reduceSub, Nat.reduceLeDiff, Nat.reduceLT, Int.reduceLT, Int.reduceLE, Int.reduceEq, Int.reduceToNat, Int.reduceAdd, Int.reduceSub, Int.reduceNeg, Int.reduceBEq, Int.reduceBNe, Nat.reduceBEq, Int.cast_ofNat_Int, decide_true, decide_false, ne_eq, eq_self_iff_true, beq_eq_false_iff_ne, bne_iff_ne, List.replicate, eqz_end, eqz_mid, eqz_nil] <;> simp <;> done) | (simp -implicitDefEqProofs only [SD, SF, SL, e_nf, reduceCtorEq, implies_true, ↓reduceIte, Nat.reduceEqDiff, Nat.reduceAdd, Nat.reduceMul, Nat.reduceSub, Nat.reduceLeDiff, Nat.reduceLT, Int.reduceLT, Int.reduceLE, Int.reduceEq, Int.reduceToNat, Int.reduceAdd, Int.reduceSub, Int.reduceNeg, Int.reduceBEq, Int.reduceBNe, Nat.reduceBEq, Int.cast_ofNat_Int, decide_true, decide_false, ne_eq, eq_self_iff_true, beq_eq_false_iff_ne, bne_iff_ne, List.replicate, eqz_end, eqz_mid, eqz_nil, *] <;> simp_all <;> done))
          | ((with_reducible refine of_kSpec ?_)
             refine call_sub (ds' := [.agg (encEv x.1), .agg (encEv x.2)]) (spec41 x.1 x.2) rfl ?_ ?_
             · simp -implicitDefEqProofs only [SD, SF, SL, e_nf, reduceCtorEq, implies_true, ↓reduceIte, Nat.reduceEqDiff, Nat.reduceAdd, Nat.reduceMul, Nat.reduceSub, Nat.reduceLeDiff, Nat.reduceLT, Int.reduceLT, Int.reduceLE, Int.reduceEq, Int.reduceToNat, Int.reduceAdd, Int.reduceSub, Int.reduceNeg, Int.reduceBEq, Int.reduceBNe, Nat.reduceBEq, Int.cast_ofNat_Int, decide_true, decide_false, ne_eq, eq_self_iff_true, beq_eq_false_iff_ne, bne_iff_ne, List.replicate, encEv, *]
               done)
          | (with_reducible refine ite_in (fun _ => ?_) (fun _ => ?_))
          | (with_reducible refine ⟨fun _ => ?_, fun _ => ?_⟩)
          | (with_reducible refine And.intro ?_ ?_)
          | (with_reducible intro _)
          | (with_reducible exact is_in _)
          | (simp -implicitDefEqProofs only [SD, SF, SL, e_nf, reduceCtorEq, implies_true, ↓reduceIte, Nat.reduceEqDiff, Nat.reduceAdd, Nat.reduceMul, Nat.reduceSub, Nat.reduceLeDiff, Nat.reduceLT, Int.reduceLT, Int.reduceLE, Int.reduceEq, Int.reduceToNat, Int.reduceAdd, Int.reduceSub, Int.reduceNeg, Int.reduceBEq, Int.reduceBNe, Nat.reduceBEq, Int.cast_ofNat_Int, decide_true, decide_false, ne_eq, eq_self_iff_true, beq_eq_false_iff_ne, bne_iff_ne, List.replicate, eqz_end, eqz_mid, eqz_nil, *]))))
        all_goals (simp_all [eqz_end, eqz_mid, eqz_nil])
  · have hne : a ≠ b := fun e => h (by rw [e])
    iterate 30 (all_goals (try (first
      | (with_reducible refine ite_in (fun _ => ?_) (fun _ => ?_))
      | (with_reducible refine ⟨fun _ => ?_, fun _ => ?_⟩)
      | (with_reducible refine And.intro ?_ ?_)
      | (with_reducible intro _)
      | (with_reducible exact is_in _)
      | (simp -implicitDefEqProofs only [SD, SF, SL, e_nf, reduceCtorEq, implies_true, ↓reduceIte, Nat.reduceEqDiff, Nat.reduceAdd, Nat.reduceMul, Nat.reduceSub, Nat.reduceLeDiff, Nat.reduceLT, Int.reduceLT, Int.reduceLE, Int.reduceEq, Int.reduceToNat, Int.reduceAdd, Int.reduceSub, Int.reduceNeg, Int.reduceBEq, Int.reduceBNe, Nat.reduceBEq, Int.cast_ofNat_Int, decide_true, decide_false, ne_eq, eq_self_iff_true, beq_eq_false_iff_ne, bne_iff_ne, List.replicate, len_cast, *]))))
    all_goals (simp_all)
def ac21 : AC := (.seq (.ops [⟨(some 2), none, (.box (.t 0))⟩, ⟨(some 3), none, (.box (.t 1))⟩, ⟨(some 4), none, (.mv (.c (.bool false)))⟩]) (.seq (.ops [⟨(some 5), none, (.fld 0 (.t 2))⟩, ⟨(some 6), none, (.ld false 1 (.t 5))⟩, ⟨(some 7), none, (.fld 0 (.t 3))⟩, ⟨(some 8), none, (.ld false 1 (.t 7))⟩, ⟨(some 9), none, (.bin .eql (.t 6) (.t 8))⟩, ⟨(some 10), none, (.mv (.t 9))⟩, ⟨(some 11), (some (10, true)), (.fld 1 (.t 2))⟩, ⟨(some 12), (some (10, true)), (.ld false 1 (.t 11))⟩, ⟨(some 13), (some (10, true)), (.fld 1 (.t 3))⟩, ⟨(some 14), (some (10, true)), (.ld false 1 (.t 13))⟩, ⟨(some 15), (some (10, true)), (.bin .eql (.t 12) (.t 14))⟩, ⟨(some 16), none, (.pick (.t 10) (.t 15) (.c (.bool false)))⟩, ⟨(some 17), none, (.mv (.t 16))⟩, ⟨(some 18), (some (17, true)), (.fld 2 (.t 2))⟩, ⟨(some 19), (some (17, true)), (.ld false 1 (.t 18))⟩, ⟨(some 20), (some (17, true)), (.fld 2 (.t 3))⟩, ⟨(some 21), (some (17, true)), (.ld false 1 (.t 20))⟩, ⟨(some 22), (some (17, true)), (.bin .eql (.t 19) (.t 21))⟩, ⟨(some 23), none, (.pick (.t 17) (.t 22) (.c (.bool false)))⟩, ⟨(some 24), none, (.mv (.t 23))⟩, ⟨(some 25), (some (24, true)), (.fld 3 (.t 2))⟩, ⟨(some 26), (some (24, true)), (.ld false 1 (.t 25))⟩, ⟨(some 27), (some (24, true)), (.fld 3 (.t 3))⟩, ⟨(some 28), (some (24, true)), (.ld false 1 (.t 27))⟩, ⟨(some 29), (some (24, true)), (.bin .eql (.t 26) (.t 28))⟩, ⟨(some 30), none, (.pick (.t 24) (.t 29) (.c (.bool false)))⟩, ⟨(some 31), none, (.mv (.t 30))⟩, ⟨(some 32), (some (31, true)), (.fld 4 (.t 2))⟩, ⟨(some 33), (some (31, true)), (.ld false 1 (.t 32))⟩, ⟨(some 34), (some (31, true)), (.fld 4 (.t 3))⟩, ⟨(some 35), (some (31, true)), (.ld false 1 (.t 34))⟩, ⟨(some 36), (some (31, true)), (.bin .eql (.t 33) (.t 35))⟩, ⟨(some 37), none, (.pick (.t 31) (.t 36) (.c (.bool false)))⟩, ⟨(some 38), none, (.mv (.t 37))⟩, ⟨(some 39), (some (38, true)), (.fld 8 (.t 2))⟩, ⟨(some 40), (some (38, true)), (.ld false 1 (.t 39))⟩, ⟨(some 41), (some (38, true)), (.fld 8 (.t 3))⟩, ⟨(some 42), (some (38, true)), (.ld false 1 (.t 41))⟩, ⟨(some 43), (some (38, true)), (.bin .eql (.t 40) (.t 42))⟩, ⟨(some 44), none, (.pick (.t 38) (.t 43) (.c (.bool false)))⟩, ⟨(some 45), none, (.mv (.t 44))⟩, ⟨(some 46), (some (45, true)), (.fld 9 (.t 2))⟩, ⟨(some 47), (some (45, true)), (.ld false 1 (.t 46))⟩, ⟨(some 48), (some (45, true)), (.fld 9 (.t 3))⟩, ⟨(some 49), (some (45, true)), (.ld false 1 (.t 48))⟩, ⟨(some 50), (some (45, true)), (.bin .eql (.t 47) (.t 49))⟩, ⟨(some 51), none, (.pick (.t 45) (.t 50) (.c (.bool false)))⟩, ⟨(some 52), none, (.mv (.t 51))⟩, ⟨(some 53), (some (52, true)), (.fld 6 (.t 2))⟩, ⟨(some 54), (some (52, true)), (.ld false 1 (.t 53))⟩, ⟨(some 55), (some (52, true)), (.fld 6 (.t 3))⟩, ⟨(some 56), (some (52, true)), (.ld false 1 (.t 55))⟩, ⟨(some 57), (some (52, true)), (.call false 36 [(.t 54), (.t 56)])⟩, ⟨(some 58), none, (.pick (.t 52) (.t 57) (.c (.bool false)))⟩, ⟨(some 59), none, (.mv (.t 58))⟩, ⟨(some 60), (some (59, true)), (.fld 5 (.t 2))⟩, ⟨(some 61), (some (59, true)), (.ld false 1 (.t 60))⟩, ⟨(some 62), (some (59, true)), (.fld 5 (.t 3))⟩, ⟨(some 63), (some (59, true)), (.ld false 1 (.t 62))⟩, ⟨(some 64), (some (59, true)), (.call false 37 [(.t 61), (.t 63)])⟩, ⟨(some 65), none, (.pick (.t 59) (.t 64) (.c (.bool false)))⟩, ⟨(some 66), none, (.mv (.t 65))⟩, ⟨(some 67), (some (66, true)), (.fld 7 (.t 2))⟩, ⟨(some 68), (some (66, true)), (.ld false 1 (.t 67))⟩, ⟨(some 69), (some (66, true)), (.fld 7 (.t 3))⟩, ⟨(some 70), (some (66, true)), (.ld false 1 (.t 69))⟩, ⟨(some 71), (some (66, true)), (.call false 37 [(.t 68), (.t 70)])⟩, ⟨(some 72), none, (.pick (.t 66) (.t 71) (.c (.bool false)))⟩, ⟨(some 4), none, (.mv (.t 72))⟩]) .ret))
theorem tr21 : Try.f21.body.bind (trCode Try.prog) = some (strip ac21) := by kernel_rfl
theorem spec21 (a b : Pk) : Spec Try.prog 21 [.fz (.agg (encPk a)), .fz (.agg (encPk b))] (.fz (.bool (decide (a = b)))) := by
  refine spec_at (n := 71) (ars := [(.t 4)]) (ac := ac21) Try.func21 (by kernel_rfl) (by kernel_rfl) tr21 (by kernel_rfl) ?_
  unfold ac21
  iterate 120 (all_goals (try (first
    | ((with_reducible refine of_kSpec ?_); refine call_fz (spec36 a.ids b.ids) rfl ?_)
    | ((with_reducible refine of_kSpec ?_); refine call_fz (spec37 a.events b.events) rfl ?_)
    | ((with_reducible refine of_kSpec ?_); refine call_fz (spec37 a.auth b.auth) rfl ?_)
    | (with_reducible refine ite_in (fun _ => ?_) (fun _ => ?_))
    | (with_reducible refine ⟨fun _ => ?_, fun _ => ?_⟩)
    | (with_reducible refine And.intro ?_ ?_)
    | (with_reducible intro _)
    | (with_reducible exact is_in _)
    | (simp -implicitDefEqProofs only [SD, SF, SL, e_nf, reduceCtorEq, implies_true, ↓reduceIte, Nat.reduceEqDiff, Nat.reduceAdd, Nat.reduceMul, Nat.reduceSub, Nat.reduceLeDiff, Nat.reduceLT, Int.reduceLT, Int.reduceLE, Int.reduceEq, Int.reduceToNat, Int.reduceAdd, Int.reduceSub, Int.reduceNeg, Int.reduceBEq, Int.reduceBNe, Nat.reduceBEq, Int.cast_ofNat_Int, decide_true, decide_false, ne_eq, eq_self_iff_true, beq_eq_false_iff_ne, bne_iff_ne, List.replicate, encPk, *]))))
  all_goals (first | (simp_all [Pk_eq]; done) | grind [Pk_eq])
def ac14 : AC := (.seq (.ops [⟨(some 2), none, (.box (.t 0))⟩, ⟨(some 3), none, (.box (.t 1))⟩, ⟨(some 4), none, (.mv (.c (.bool false)))⟩]) (.seq (.seq (.ops [⟨(some 7), none, (.fld 0 (.t 2))⟩, ⟨(some 8), none, (.ld false 1 (.t 7))⟩, ⟨(some 9), none, (.len (.t 8))⟩, ⟨(some 10), none, (.fld 0 (.t 3))⟩, ⟨(some 11), none, (.ld false 1 (.t 10))⟩, ⟨(some 12), none, (.len (.t 11))⟩, ⟨(some 13), none, (.bin .neq (.t 9) (.t 12))⟩, ⟨(some 14), none, (.mv (.t 13))⟩, ⟨(some 15), (some (14, false)), (.fld 1 (.t 2))⟩, ⟨(some 16), (some (14, false)), (.ld false 1 (.t 15))⟩, ⟨(some 17), (some (14, false)), (.len (.t 16))⟩, ⟨(some 18), (some (14, false)), (.fld 1 (.t 3))⟩, ⟨(some 19), (some (14, false)), (.ld false 1 (.t 18))⟩, ⟨(some 20), (some (14, false)), (.len (.t 19))⟩, ⟨(some 21), (some (14, false)), (.bin .neq (.t 17) (.t 20))⟩, ⟨(some 22), none, (.pick (.t 14) (.c (.bool true)) (.t 21))⟩]) (.cond (.t 22) (.seq (.ops [⟨(some 4), none, (.mv (.c (.bool false)))⟩]) .ret) .skip)) (.seq (.seq (.ops [⟨(some 5), none, (.mv (.c (.int .i64 0)))⟩]) (.block 0 (.loop (.seq (.seq (.ops [⟨(some 23), none, (.mv (.t 5))⟩, ⟨(some 24), none, (.fld 0 (.t 2))⟩, ⟨(some 25), none, (.ld false 1 (.t 24))⟩, ⟨(some 26), none, (.len (.t 25))⟩, ⟨(some 27), none, (.bin .lss (.t 23) (.t 26))⟩]) (.cond (.t 27) .skip (.exit 0))) (.seq (.block 1 (.seq (.draw (.q false ⟨(some 30), none, (.fld 0 (.t 2))⟩ (.q false ⟨(some 31), none, (.ld false 1 (.t 30))⟩ (.q false ⟨(some 32), none, (.mv (.t 5))⟩ (.q false ⟨(some 33), none, (.ix 10 (.t 31) (.t 32))⟩ (.q false ⟨(some 34), none, (.ld true 10 (.t 33))⟩ (.q false ⟨(some 35), none, (.fld 0 (.t 3))⟩ (.q false ⟨(some 36), none, (.ld false 1 (.t 35))⟩ (.q false ⟨(some 37), none, (.mv (.t 5))⟩ (.q false ⟨(some 38), none, (.ix 10 (.t 36) (.t 37))⟩ (.q false ⟨(some 39), none, (.ld true 10 (.t 38))⟩ (.op ⟨(some 40), none, (.call false 21 [(.t 34), (.t 39)])⟩ (.q false ⟨(some 41), none, (.nt (.t 40))⟩ .nil))))))))))))) (.cond (.t 41) (.seq (.ops [⟨(some 4), none, (.mv (.c (.bool false)))⟩]) .ret) .skip))) (.ops [⟨(some 28), none, (.mv (.t 5))⟩, ⟨(some 29), none, (.bin .add (.t 28) (.c (.int .i64 1)))⟩, ⟨(some 5), none, (.mv (.t 29))⟩])))))) (.seq (.seq (.ops [⟨(some 6), none, (.mv (.c (.int .i64 0)))⟩]) (.block 2 (.loop (.seq (.seq (.ops [⟨(some 42), none, (.mv (.t 6))⟩, ⟨(some 43), none, (.fld 1 (.t 2))⟩, ⟨(some 44), none, (.ld false 1 (.t 43))⟩, ⟨(some 45), none, (.len (.t 44))⟩, ⟨(some 46), none, (.bin .lss (.t 42) (.t 45))⟩]) (.cond (.t 46) .skip (.exit 2))) (.seq (.block 3 (.seq (.draw (.q false ⟨(some 49), none, (.fld 1 (.t 2))⟩ (.q false ⟨(some 50), none, (.ld false 1 (.t 49))⟩ (.q false ⟨(some 51), none, (.mv (.t 6))⟩ (.q false ⟨(some 52), none, (.ix 2 (.t 50) (.t 51))⟩ (.q false ⟨(some 53), none, (.ixp 2 1 (.t 52) (.c (.int .i64 0)))⟩ (.q false ⟨(some 54), none, (.ld false 1 (.t 53))⟩ (.q false ⟨(some 55), none, (.fld 1 (.t 3))⟩ (.q false ⟨(some 56), none, (.ld false 1 (.t 55))⟩ (.q false ⟨(some 57), none, (.mv (.t 6))⟩ (.q false ⟨(some 58), none, (.ix 2 (.t 56) (.t 57))⟩ (.q false ⟨(some 59), none, (.ixp 2 1 (.t 58) (.c (.int .i64 0)))⟩ (.q false ⟨(some 60), none, (.ld false 1 (.t 59))⟩ (.q false ⟨(some 61), none, (.bin .neq (.t 54) (.t 60))⟩ (.q false ⟨(some 62), none, (.mv (.t 61))⟩ (.q false ⟨(some 63), (some (62, false)), (.fld 1 (.t 2))⟩ (.q false ⟨(some 64), (some (62, false)), (.ld false 1 (.t 63))⟩ (.q false ⟨(some 65), (some (62, false)), (.mv (.t 6))⟩ (.q false ⟨(some 66), (some (62, false)), (.ix 2 (.t 64) (.t 65))⟩ (.q false ⟨(some 67), (some (62, false)), (.ixp 2 1 (.t 66) (.c (.int .i64 1)))⟩ (.q false ⟨(some 68), (some (62, false)), (.ld false 1 (.t 67))⟩ (.q false ⟨(some 69), (some (62, false)), (.fld 1 (.t 3))⟩ (.q false ⟨(some 70), (some (62, false)), (.ld false 1 (.t 69))⟩ (.q false ⟨(some 71), (some (62, false)), (.mv (.t 6))⟩ (.q false ⟨(some 72), (some (62, false)), (.ix 2 (.t 70) (.t 71))⟩ (.q false ⟨(some 73), (some (62, false)), (.ixp 2 1 (.t 72) (.c (.int .i64 1)))⟩ (.q false ⟨(some 74), (some (62, false)), (.ld false 1 (.t 73))⟩ (.q false ⟨(some 75), (some (62, false)), (.bin .neq (.t 68) (.t 74))⟩ (.q false ⟨(some 76), none, (.pick (.t 62) (.c (.bool true)) (.t 75))⟩ .nil))))))))))))))))))))))))))))) (.cond (.t 76) (.seq (.ops [⟨(some 4), none, (.mv (.c (.bool false)))⟩]) .ret) .skip))) (.ops [⟨(some 47), none, (.mv (.t 6))⟩, ⟨(some 48), none, (.bin .add (.t 47) (.c (.int .i64 1)))⟩, ⟨(some 6), none, (.mv (.t 48))⟩])))))) (.seq (.ops [⟨(some 4), none, (.mv (.c (.bool true)))⟩]) .ret)))))
theorem tr14 : Try.f14.body.bind (trCode Try.prog) = some (strip ac14) := by kernel_rfl
theorem spec14 (a b : Ntw) : Spec Try.prog 14 [.fz (.agg (encNw a)), .fz (.agg (encNw b))] (.fz (.bool (decide (a = b)))) := by
  refine spec_at (n := 75) (ars := [(.t 4)]) (ac := ac14) Try.func14 (by kernel_rfl) (by kernel_rfl) tr14 (by kernel_rfl) ?_
  unfold ac14
  by_cases h : a.packets.length = b.packets.length ∧ a.cuts.length = b.cuts.length
  · obtain ⟨h1, h2⟩ := h
    obtain ⟨z1, e1, e2⟩ := zip_of_len h1
    obtain ⟨z2, e3, e4⟩ := zip_of_len h2
    obtain ⟨au, ak⟩ := a
    obtain ⟨bu, bk⟩ := b
    dsimp only at e1 e2 e3 e4
    subst e1 e2 e3 e4
    clear h1 h2
    have hdd : decide ((⟨z1.map Prod.fst, z2.map Prod.fst⟩ : Ntw) = ⟨z1.map Prod.snd, z2.map Prod.snd⟩) = decide (eqz z1 ∧ eqz z2) := by
      exact decide_eq_decide.2 (by simp only [Ntw.mk.injEq, eqz])
    rw [hdd]
    clear hdd
    iterate 6 (all_goals (try (first
      | (with_reducible refine ite_in (fun _ => ?_) (fun _ => ?_))
      | (with_reducible refine ⟨fun _ => ?_, fun _ => ?_⟩)
      | (with_reducible refine And.intro ?_ ?_)
      | (with_reducible intro _)
      | (with_reducible exact is_in _)
      | (simp -implicitDefEqProofs only [SD, SF, SL, e_nf, reduceCtorEq, implies_true, ↓reduceIte, Nat.reduceEqDiff, Nat.reduceAdd, Nat.reduceMul, Nat.reduceSub, Nat.reduceLeDiff, Nat.reduceLT, Int.reduceLT, Int.reduceLE, Int.reduceEq, Int.reduceToNat, Int.reduceAdd, Int.reduceSub, Int.reduceNeg, Int.reduceBEq, Int.reduceBNe, Nat.reduceBEq, Int.cast_ofNat_Int, decide_true, decide_false, ne_eq, eq_self_iff_true, beq_eq_false_iff_ne, bne_iff_ne, List.replicate, encNw, len_cast, *]))))
    refine loop_q (X := List (Pk × Pk) × List (Pk × Pk) × Unit) (fun n x => z1 = x.1 ++ x.2.1 ∧ n = x.2.1.length ∧ (eqz x.1)) (fun x => [(5, .int .i64 x.1.length)]) (fun _ => []) [4, 23, 24, 25, 26, 27, 28, 29, 30, 31, 32, 33, 34, 35, 36, 37, 38, 39, 40, 41] []  (z1).length ([], z1, ()) ⟨rfl, rfl, by first | rfl | assumption | (simp_all [eqz_end, eqz_mid, eqz_nil]; done)⟩ ?_ ?_
    · simp -implicitDefEqProofs only [SD, SF, SL, e_nf, reduceCtorEq, implies_true, ↓reduceIte, Nat.reduceEqDiff, Nat.reduceAdd, Nat.reduceMul, Nat.reduceSub, Nat.reduceLeDiff, Nat.reduceLT, Int.reduceLT, Int.reduceLE, Int.reduceEq, Int.reduceToNat, Int.reduceAdd, Int.reduceSub, Int.reduceNeg, Int.reduceBEq, Int.reduceBNe, Nat.reduceBEq, Int.cast_ofNat_Int, decide_true, decide_false, ne_eq, eq_self_iff_true, beq_eq_false_iff_ne, bne_iff_ne, List.replicate, encNw, eqz_end, eqz_mid, eqz_nil] <;> simp
    · rintro n ⟨pre1, rest1, a1⟩ ⟨he1, rfl, hI1⟩
      dsimp only at he1 hI1
      cases rest1 with
      | nil =>
        obtain rfl : z1 = pre1 := by simpa using he1
        clear he1
        have hlt1 : ¬ (((z1).length : Int) < ((z1).length : Int)) := Int.lt_irrefl _
        iterate 30 (all_goals (try (first
          | (with_reducible refine ite_in (fun _ => ?_) (fun _ => ?_))
          | (with_reducible refine ⟨fun _ => ?_, fun _ => ?_⟩)
          | (with_reducible refine And.intro ?_ ?_)
          | (with_reducible intro _)
          | (with_reducible exact is_in _)
          | (simp -implicitDefEqProofs only [SD, SF, SL, e_nf, reduceCtorEq, implies_true, ↓reduceIte, Nat.reduceEqDiff, Nat.reduceAdd, Nat.reduceMul, Nat.reduceSub, Nat.reduceLeDiff, Nat.reduceLT, Int.reduceLT, Int.reduceLE, Int.reduceEq, Int.reduceToNat, Int.reduceAdd, Int.reduceSub, Int.reduceNeg, Int.reduceBEq, Int.reduceBNe, Nat.reduceBEq, Int.cast_ofNat_Int, decide_true, decide_false, ne_eq, eq_self_iff_true, beq_eq_false_iff_ne, bne_iff_ne, List.replicate, encNw, eqz_end, eqz_mid, eqz_nil, *]))))
        refine loop_q (X := List (Lk × Lk) × List (Lk × Lk) × Unit) (fun n x => z2 = x.1 ++ x.2.1 ∧ n = x.2.1.length ∧ (eqz x.1)) (fun x => [(6, .int .i64 x.1.length)]) (fun _ => []) [4, 42, 43, 44, 45, 46, 47, 48, 49, 50, 51, 52, 53, 54, 55, 56, 57, 58, 59, 60, 61, 62, 63, 64, 65, 66, 67, 68, 69, 70, 71, 72, 73, 74, 75, 76] []  (z2).length ([], z2, ()) ⟨rfl, rfl, by first | rfl | assumption | (simp_all [eqz_end, eqz_mid, eqz_nil, Lk_eq]; done)⟩ ?_ ?_
        · simp -implicitDefEqProofs only [SD, SF, SL, e_nf, reduceCtorEq, implies_true, ↓reduceIte, Nat.reduceEqDiff, Nat.reduceAdd, Nat.reduceMul, Nat.reduceSub, Nat.reduceLeDiff, Nat.reduceLT, Int.reduceLT, Int.reduceLE, Int.reduceEq, Int.reduceToNat, Int.reduceAdd, Int.reduceSub, Int.reduceNeg, Int.reduceBEq, Int.reduceBNe, Nat.reduceBEq, Int.cast_ofNat_Int, decide_true, decide_false, ne_eq, eq_self_iff_true, beq_eq_false_iff_ne, bne_iff_ne, List.replicate, encNw, eqz_end, eqz_mid, eqz_nil] <;> simp
        · rintro n ⟨pre2, rest2, a2⟩ ⟨he2, rfl, hI2⟩
          dsimp only at he2 hI2
          cases rest2 with
          | nil =>
            obtain rfl : z2 = pre2 := by simpa using he2
            clear he2
            have hlt2 : ¬ (((z2).length : Int) < ((z2).length : Int)) := Int.lt_irrefl _
            iterate 30 (all_goals (try (first
              | (with_reducible refine ite_in (fun _ => ?_) (fun _ => ?_))
              | (with_reducible refine ⟨fun _ => ?_, fun _ => ?_⟩)
              | (with_reducible refine And.intro ?_ ?_)
              | (with_reducible intro _)
              | (with_reducible exact is_in _)
              | (simp -implicitDefEqProofs only [SD, SF, SL, e_nf, reduceCtorEq, implies_true, ↓reduceIte, Nat.reduceEqDiff, Nat.reduceAdd, Nat.reduceMul, Nat.reduceSub, Nat.reduceLeDiff, Nat.reduceLT, Int.reduceLT, Int.reduceLE, Int.reduceEq, Int.reduceToNat, Int.reduceAdd, Int.reduceSub, Int.reduceNeg, Int.reduceBEq, Int.reduceBNe, Nat.reduceBEq, Int.cast_ofNat_Int, decide_true, decide_false, ne_eq, eq_self_iff_true, beq_eq_false_iff_ne, bne_iff_ne, List.replicate, encNw, eqz_end, eqz_mid, eqz_nil, *]))))
            all_goals (first | (simp_all [eqz_end, eqz_mid, eqz_nil, Lk_eq]; done) | (simp_all [eqz_end, eqz_mid, eqz_nil, Lk_eq, eqz]; done))

          | cons x2 rest2 =>
            have hlt2 := cut_lt he2
            have hx2 := cutD1 encLk he2
            have hy2 := cutD2 encLk he2
            have hez2 := eqz_mid pre2 x2 rest2
            rw [← he2] at hez2
            simp only [encLk] at hx2 hy2
            simp -implicitDefEqProofs only [SD, SF, SL, e_nf, reduceCtorEq, implies_true, ↓reduceIte, Nat.reduceEqDiff, Nat.reduceAdd, Nat.reduceMul, Nat.reduceSub, Nat.reduceLeDiff, Nat.reduceLT, Int.reduceLT, Int.reduceLE, Int.reduceEq, Int.reduceToNat, Int.reduceAdd, Int.reduceSub, Int.reduceNeg, Int.reduceBEq, Int.reduceBNe, Nat.reduceBEq, Int.cast_ofNat_Int, decide_true, decide_false, ne_eq, eq_self_iff_true, beq_eq_false_iff_ne, bne_iff_ne, List.replicate, encNw, eqz_end, eqz_mid, eqz_nil, hlt2]
            intro hl
            have hw2 := wrap_len (n := pre2.length) (m := (z2).length) (cut_lt' he2) (by simpa using hl)
            replace he2 := Hd.mk he2
            iterate 30 (all_goals (try (first
              | ((with_reducible refine back_in rest2.length [4, 42, 43, 44, 45, 46, 47, 48, 49, 50, 51, 52, 53, 54, 55, 56, 57, 58, 59, 60, 61, 62, 63, 64, 65, 66, 67, 68, 69, 70, 71, 72, 73, 74, 75, 76] [] (pre2 ++ [x2], rest2, a2) ?_ ⟨?_, ?_, ?_⟩ ?_)
                 · simp
                 · exact cut_snoc he2.out
                 · rfl
                 · first | rfl | assumption | (simp_all [eqz_end, eqz_mid, eqz_nil, Lk_eq]; done)
                 · first | (simp -implicitDefEqProofs only [SD, SF, SL, e_nf, reduceCtorEq, implies_true, ↓reduceIte, Nat.reduceEqDiff, Nat.reduceAdd, Nat.reduceMul, Nat.reduceSub, Nat.reduceLeDiff, Nat.reduceLT, Int.reduceLT, Int.reduceLE, Int.reduceEq, Int.reduceToNat, Int.reduceAdd, Int.reduceSub, Int.reduceNeg, Int.reduceBEq, Int.reduceBNe, Nat.reduceBEq, Int.cast_ofNat_Int, decide_true, decide_false, ne_eq, eq_self_iff_true, beq_eq_false_iff_ne, bne_iff_ne, List.replicate, encNw, eqz_end, eqz_mid, eqz_nil] <;> simp <;> done) | (simp -implicitDefEqProofs only [SD, SF, SL, e_nf, reduceCtorEq, implies_true, ↓reduceIte, Nat.reduceEqDiff, Nat.reduceAdd, Nat.reduceMul, Nat.reduceSub, Nat.reduceLeDiff, Nat.reduceLT, Int.reduceLT, Int.reduceLE, Int.reduceEq, Int.reduceToNat, Int.reduceAdd, Int.reduceSub, Int.reduceNeg, Int.reduceBEq, Int.reduceBNe, Nat.reduceBEq, Int.cast_ofNat_Int, decide_true, decide_false, ne_eq, eq_self_iff_true, beq_eq_false_iff_ne, bne_iff_ne, List.replicate, encNw, eqz_end, eqz_mid, eqz_nil, *] <;> simp_all <;> done))
              | (with_reducible refine ite_in (fun _ => ?_) (fun _ => ?_))
              | (with_reducible refine ⟨fun _ => ?_, fun _ => ?_⟩)
              | (with_reducible refine And.intro ?_ ?_)
              | (with_reducible intro _)
              | (with_reducible exact is_in _)
              | (simp -implicitDefEqProofs only [SD, SF, SL, e_nf, reduceCtorEq, implies_true, ↓reduceIte, Nat.reduceEqDiff, Nat.reduceAdd, Nat.reduceMul, Nat.reduceSub, Nat.reduceLeDiff, Nat.reduceLT, Int.reduceLT, Int.reduceLE, Int.reduceEq, Int.reduceToNat, Int.reduceAdd, Int.reduceSub, Int.reduceNeg, Int.reduceBEq, Int.reduceBNe, Nat.reduceBEq, Int.cast_ofNat_Int, decide_true, decide_false, ne_eq, eq_self_iff_true, beq_eq_false_iff_ne, bne_iff_ne, List.replicate, encNw, eqz_end, eqz_mid, eqz_nil, *]))))
            all_goals (first | (simp_all [eqz_end, eqz_mid, eqz_nil, Lk_eq]; done) | (simp_all [eqz_end, eqz_mid, eqz_nil, Lk_eq, eqz]; done))
      | cons x1 rest1 =>
        have hlt1 := cut_lt he1
        have hx1 := cutD1 encPk he1
        have hy1 := cutD2 encPk he1
        have hez1 := eqz_mid pre1 x1 rest1
        rw [← he1] at hez1
        simp only [encPk] at hx1 hy1
        simp -implicitDefEqProofs only [SD, SF, SL, e_nf, reduceCtorEq, implies_true, ↓reduceIte, Nat.reduceEqDiff, Nat.reduceAdd, Nat.reduceMul, Nat.reduceSub, Nat.reduceLeDiff, Nat.reduceLT, Int.reduceLT, Int.reduceLE, Int.reduceEq, Int.reduceToNat, Int.reduceAdd, Int.reduceSub, Int.reduceNeg, Int.reduceBEq, Int.reduceBNe, Nat.reduceBEq, Int.cast_ofNat_Int, decide_true, decide_false, ne_eq, eq_self_iff_true, beq_eq_false_iff_ne, bne_iff_ne, List.replicate, encNw, eqz_end, eqz_mid, eqz_nil, hlt1]
        intro hl
        have hw1 := wrap_len (n := pre1.length) (m := (z1).length) (cut_lt' he1) (by simpa using hl)
        replace he1 := Hd.mk he1
        iterate 30 (all_goals (try (first
          | ((with_reducible refine back_in rest1.length [4, 23, 24, 25, 26, 27, 28, 29, 30, 31, 32, 33, 34, 35, 36, 37, 38, 39, 40, 41] [] (pre1 ++ [x1], rest1, a1) ?_ ⟨?_, ?_, ?_⟩ ?_)
             · simp
             · exact cut_snoc he1.out
             · rfl
             · first | rfl | assumption | (simp_all [eqz_end, eqz_mid, eqz_nil]; done)
             · first | (simp -implicitDefEqProofs only [SD, SF, SL, e_nf, reduceCtorEq, implies_true, ↓reduceIte, Nat.reduceEqDiff, Nat.reduceAdd, Nat.reduceMul, Nat.reduceSub, Nat.reduceLeDiff, Nat.reduceLT, Int.reduceLT, Int.reduceLE, Int.reduceEq, Int.reduceToNat, Int.reduceAdd, Int.reduceSub, Int.reduceNeg, Int.reduceBEq, Int.reduceBNe, Nat.reduceBEq, Int.cast_ofNat_Int, decide_true, decide_false, ne_eq, eq_self_iff_true, beq_eq_false_iff_ne, bne_iff_ne, List.replicate, encNw, eqz_end, eqz_mid, eqz_nil] <;> simp <;> done) | (simp -implicitDefEqProofs only [SD, SF, SL, e_nf, reduceCtorEq, implies_true, ↓reduceIte, Nat.reduceEqDiff, Nat.reduceAdd, Nat.reduceMul, Nat.reduceSub, Nat.reduceLeDiff, Nat.reduceLT, Int.reduceLT, Int.reduceLE, Int.reduceEq, Int.reduceToNat, Int.reduceAdd, Int.reduceSub, Int.reduceNeg, Int.reduceBEq, Int.reduceBNe, Nat.reduceBEq, Int.cast_ofNat_Int, decide_true, decide_false, ne_eq, eq_self_iff_true, beq_eq_false_iff_ne, bne_iff_ne, List.replicate, encNw, eqz_end, eqz_mid, eqz_nil, *] <;> simp_all <;> done))
          | ((with_reducible refine of_kSpec ?_)
             refine call_sub (ds' := [.agg (encPk x1.1), .agg (encPk x1.2)]) (spec21 x1.1 x1.2) rfl ?_ ?_
             · simp -implicitDefEqProofs only [SD, SF, SL, e_nf, reduceCtorEq, implies_true, ↓reduceIte, Nat.reduceEqDiff, Nat.reduceAdd, Nat.reduceMul, Nat.reduceSub, Nat.reduceLeDiff, Nat.reduceLT, Int.reduceLT, Int.reduceLE, Int.reduceEq, Int.reduceToNat, Int.reduceAdd, Int.reduceSub, Int.reduceNeg, Int.reduceBEq, Int.reduceBNe, Nat.reduceBEq, Int.cast_ofNat_Int, decide_true, decide_false, ne_eq, eq_self_iff_true, beq_eq_false_iff_ne, bne_iff_ne, List.replicate, encPk, *]
               done)
          | (with_reducible refine ite_in (fun _ => ?_) (fun _ => ?_))
          | (with_reducible refine ⟨fun _ => ?_, fun _ => ?_⟩)
          | (with_reducible refine And.intro ?_ ?_)
          | (with_reducible intro _)
          | (with_reducible exact is_in _)
          | (simp -implicitDefEqProofs only [SD, SF, SL, e_nf, reduceCtorEq, implies_true, ↓reduceIte, Nat.reduceEqDiff, Nat.reduceAdd, Nat.reduceMul, Nat.reduceSub, Nat.reduceLeDiff, Nat.reduceLT, Int.reduceLT, Int.reduceLE, Int.reduceEq, Int.reduceToNat, Int.reduceAdd, Int.reduceSub, Int.reduceNeg, Int.reduceBEq, Int.reduceBNe, Nat.reduceBEq, Int.cast_ofNat_Int, decide_true, decide_false, ne_eq, eq_self_iff_true, beq_eq_false_iff_ne, bne_iff_ne, List.replicate, encNw, eqz_end, eqz_mid, eqz_nil, *]))))
        all_goals (first | (simp_all [eqz_end, eqz_mid, eqz_nil]; done) | (simp_all [eqz_end, eqz_mid, eqz_nil, eqz]; done))
  · have hne : a ≠ b := fun e => h (by rw [e]; exact ⟨rfl, rfl⟩)
    iterate 30 (all_goals (try (first
      | (with_reducible refine ite_in (fun _ => ?_) (fun _ => ?_))
      | (with_reducible refine ⟨fun _ => ?_, fun _ => ?_⟩)
      | (with_reducible refine And.intro ?_ ?_)
      | (with_reducible intro _)
      | (with_reducible exact is_in _)
      | (simp -implicitDefEqProofs only [SD, SF, SL, e_nf, reduceCtorEq, implies_true, ↓reduceIte, Nat.reduceEqDiff, Nat.reduceAdd, Nat.reduceMul, Nat.reduceSub, Nat.reduceLeDiff, Nat.reduceLT, Int.reduceLT, Int.reduceLE, Int.reduceEq, Int.reduceToNat, Int.reduceAdd, Int.reduceSub, Int.reduceNeg, Int.reduceBEq, Int.reduceBNe, Nat.reduceBEq, Int.cast_ofNat_Int, decide_true, decide_false, ne_eq, eq_self_iff_true, beq_eq_false_iff_ne, bne_iff_ne, List.replicate, encNw, len_cast, *]))))
    all_goals (first | (simp_all; done) | (simp_all; omega))

end Go.Proofs.Ytklbfafdioeehaa.E
