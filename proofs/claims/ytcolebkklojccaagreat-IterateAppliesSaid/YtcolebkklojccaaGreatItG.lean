/-
  ItG: walks of functions of the program at data level.
-/
import Derived.Test.YtcolebkklojccaaGreatProg
import Derived.Test.YtcolebkklojccaaGreatEngZ
import Derived.Test.YtcolebkklojccaaGreatItB
import Derived.KernelRfl
set_option linter.unusedVariables false
set_option linter.unusedSimpArgs false
namespace Go.Proofs.YtcolebkklojccaaGreat.E
open Go
set_option maxHeartbeats 4000000
set_option maxRecDepth 100000
set_option linter.unusedSimpArgs false
set_option linter.unusedVariables false
attribute [local congr] c_wp c_ops c_op c_opS c_run c_runS c_dt c_seq c_blk c_loop c_S c_put c_bind c_mv c_pick c_nt c_ng c_bin c_binI c_binS c_beq c_B c_eqa c_hd c_cells c_blkK c_box c_vec c_mp c_nck c_mks c_appn c_mkm c_mput c_mlk c_mrm c_take c_ld c_ldF c_cellsK c_st c_fld c_fldv c_ix c_ixp c_ixv c_ixs c_sub c_subs c_len c_lens c_src c_dst c_ow c_app c_ext c_mm c_conv c_str c_isn c_fill c_rows c_boxo c_frz c_frzO c_frzA c_frzV c_spec c_specO c_opsP c_opP c_runP c_specP c_Z c_qretP c_fz c_fn c_gv c_cond c_res1 c_resL c_ret c_qret c_ite c_unr c_nx c_bk c_cut c_is
attribute [local irreducible] dwp
def ac13 : AC := (.seq (.ops [⟨(some 4), none, (.mv (.c (.bool false)))⟩]) (.seq (.seq (.ops [⟨(some 6), none, (.mv (.t 0))⟩, ⟨(some 7), none, (.len (.t 6))⟩, ⟨(some 8), none, (.mv (.t 1))⟩, ⟨(some 9), none, (.len (.t 8))⟩, ⟨(some 10), none, (.bin .neq (.t 7) (.t 9))⟩]) (.cond (.t 10) (.seq (.ops [⟨(some 4), none, (.mv (.c (.bool false)))⟩]) .ret) .skip)) (.seq (.seq (.ops [⟨(some 5), none, (.mv (.c (.int .i64 0)))⟩]) (.block 0 (.loop (.seq (.seq (.ops [⟨(some 11), none, (.mv (.t 5))⟩, ⟨(some 12), none, (.mv (.t 0))⟩, ⟨(some 13), none, (.len (.t 12))⟩, ⟨(some 14), none, (.bin .lss (.t 11) (.t 13))⟩]) (.cond (.t 14) .skip (.exit 0))) (.seq (.block 1 (.seq (.draw (.q false ⟨(some 17), none, (.mv (.t 0))⟩ (.q false ⟨(some 18), none, (.mv (.t 5))⟩ (.q false ⟨(some 19), none, (.ix 1 (.t 17) (.t 18))⟩ (.q false ⟨(some 20), none, (.ld false 1 (.t 19))⟩ (.q false ⟨(some 21), none, (.mv (.t 1))⟩ (.q false ⟨(some 22), none, (.mv (.t 5))⟩ (.q false ⟨(some 23), none, (.ix 1 (.t 21) (.t 22))⟩ (.q false ⟨(some 24), none, (.ld false 1 (.t 23))⟩ (.q false ⟨(some 25), none, (.bin .neq (.t 20) (.t 24))⟩ .nil)))))))))) (.cond (.t 25) (.seq (.ops [⟨(some 4), none, (.mv (.c (.bool false)))⟩]) .ret) .skip))) (.ops [⟨(some 15), none, (.mv (.t 5))⟩, ⟨(some 16), none, (.bin .add (.t 15) (.c (.int .i64 1)))⟩, ⟨(some 5), none, (.mv (.t 16))⟩])))))) (.seq (.ops [⟨(some 4), none, (.mv (.c (.bool true)))⟩]) .ret))))
theorem tr13 : Tryz.f13.body.bind (trCode Tryz.prog) = some (strip ac13) := by kernel_rfl
theorem spec13 (a b : List Int) : Spec Tryz.prog 13 [.fz (.sl 1 (a.map encN)), .fz (.sl 1 (b.map encN))] (.fz (.bool (decide (a = b)))) := by
  refine spec_at (n := 24) (ars := [(.t 4)]) (ac := ac13) Tryz.func13 (by kernel_rfl) (by kernel_rfl) tr13 (by kernel_rfl) ?_
  unfold ac13
  simp -implicitDefEqProofs only [SD, SF, SL, e_nf, reduceCtorEq, implies_true, ↓reduceIte, Nat.reduceEqDiff, Nat.reduceAdd, Nat.reduceMul, Nat.reduceSub, Nat.reduceLeDiff, Nat.reduceLT, Int.reduceLT, Int.reduceLE, Int.reduceEq, Int.reduceToNat, Int.reduceAdd, Int.reduceSub, Int.reduceNeg, Int.reduceBEq, Int.reduceBNe, Nat.reduceBEq, Int.cast_ofNat_Int, decide_true, decide_false, ne_eq, eq_self_iff_true, beq_eq_false_iff_ne, bne_iff_ne, List.replicate, len_cast]
  intro _ _
  by_cases h : a.length = b.length
  · obtain ⟨z, rfl, rfl⟩ := zip_of_len h
    rw [eqz_dec]
    simp -implicitDefEqProofs only [SD, SF, SL, e_nf, reduceCtorEq, implies_true, ↓reduceIte, Nat.reduceEqDiff, Nat.reduceAdd, Nat.reduceMul, Nat.reduceSub, Nat.reduceLeDiff, Nat.reduceLT, Int.reduceLT, Int.reduceLE, Int.reduceEq, Int.reduceToNat, Int.reduceAdd, Int.reduceSub, Int.reduceNeg, Int.reduceBEq, Int.reduceBNe, Nat.reduceBEq, Int.cast_ofNat_Int, decide_true, decide_false, ne_eq, eq_self_iff_true, beq_eq_false_iff_ne, bne_iff_ne, List.replicate, len_cast, h]
    refine loop_q (X := List (Int × Int) × List (Int × Int) × Unit) (fun n x => z = x.1 ++ x.2.1 ∧ n = x.2.1.length ∧ (eqz x.1)) (fun x => [(5, .int .i64 x.1.length)]) (fun _ => []) [4, 11, 12, 13, 14, 15, 16, 17, 18, 19, 20, 21, 22, 23, 24, 25] []  (z).length ([], z, ()) ⟨rfl, rfl, by first | rfl | assumption | (simp_all [eqz_end, eqz_mid, eqz_nil]; done) | grind [eqz_end, eqz_mid, eqz_nil]⟩ ?_ ?_
    · simp -implicitDefEqProofs only [SD, SF, SL, e_nf, reduceCtorEq, implies_true, ↓reduceIte, Nat.reduceEqDiff, Nat.reduceAdd, Nat.reduceMul, Nat.reduceSub, Nat.reduceLeDiff, Nat.reduceLT, Int.reduceLT, Int.reduceLE, Int.reduceEq, Int.reduceToNat, Int.reduceAdd, Int.reduceSub, Int.reduceNeg, Int.reduceBEq, Int.reduceBNe, Nat.reduceBEq, Int.cast_ofNat_Int, decide_true, decide_false, ne_eq, eq_self_iff_true, beq_eq_false_iff_ne, bne_iff_ne, List.replicate, eqz_end, eqz_mid, eqz_nil] <;> simp
    · rintro n ⟨pre, rest, a⟩ ⟨he, rfl, hI⟩
      dsimp only at he hI
      cases rest with
      | nil =>
        obtain rfl : z = pre := by simpa using he
        clear he
        have hlt : ¬ (((z).length : Int) < ((z).length : Int)) := Int.lt_irrefl _
        iterate 30 (all_goals (try (first
          | (with_reducible refine ite_in (fun _ => ?_) (fun _ => ?_))
          | (with_reducible refine ⟨fun _ => ?_, fun _ => ?_⟩)
          | (with_reducible refine And.intro ?_ ?_)
          | (with_reducible intro _)
          | (with_reducible exact is_in _)
          | (simp -implicitDefEqProofs only [SD, SF, SL, e_nf, reduceCtorEq, implies_true, ↓reduceIte, Nat.reduceEqDiff, Nat.reduceAdd, Nat.reduceMul, Nat.reduceSub, Nat.reduceLeDiff, Nat.reduceLT, Int.reduceLT, Int.reduceLE, Int.reduceEq, Int.reduceToNat, Int.reduceAdd, Int.reduceSub, Int.reduceNeg, Int.reduceBEq, Int.reduceBNe, Nat.reduceBEq, Int.cast_ofNat_Int, decide_true, decide_false, ne_eq, eq_self_iff_true, beq_eq_false_iff_ne, bne_iff_ne, List.replicate, eqz_end, eqz_mid, eqz_nil, *]))))
        all_goals (simp_all [eqz_end, eqz_mid, eqz_nil])

      | cons x rest =>
        have hlt := cut_lt he
        have hx := cutD1 encN he
        have hy := cutD2 encN he
        have hez := eqz_mid pre x rest
        rw [← he] at hez
        simp only [encN] at hx hy
        simp -implicitDefEqProofs only [SD, SF, SL, e_nf, reduceCtorEq, implies_true, ↓reduceIte, Nat.reduceEqDiff, Nat.reduceAdd, Nat.reduceMul, Nat.reduceSub, Nat.reduceLeDiff, Nat.reduceLT, Int.reduceLT, Int.reduceLE, Int.reduceEq, Int.reduceToNat, Int.reduceAdd, Int.reduceSub, Int.reduceNeg, Int.reduceBEq, Int.reduceBNe, Nat.reduceBEq, Int.cast_ofNat_Int, decide_true, decide_false, ne_eq, eq_self_iff_true, beq_eq_false_iff_ne, bne_iff_ne, List.replicate, eqz_end, eqz_mid, eqz_nil, hlt]
        intro hl
        have hw := wrap_len (n := pre.length) (m := (z).length) (cut_lt' he) (by simpa using hl)
        replace he := Hd.mk he
        iterate 30 (all_goals (try (first
          | ((with_reducible refine back_in rest.length [4, 11, 12, 13, 14, 15, 16, 17, 18, 19, 20, 21, 22, 23, 24, 25] [] (pre ++ [x], rest, a) ?_ ⟨?_, ?_, ?_⟩ ?_)
             · simp
             · exact cut_snoc he.out
             · rfl
             · first | rfl | assumption | (simp_all [eqz_end, eqz_mid, eqz_nil]; done) | grind [eqz_end, eqz_mid, eqz_nil]
             · first | (simp -implicitDefEqProofs only [SD, SF, SL, e_nf, reduceCtorEq, implies_true, ↓reduceIte, Nat.reduceEqDiff, Nat.reduceAdd, Nat.reduceMul, Nat.reduceSub, Nat.reduceLeDiff, Nat.reduceLT, Int.reduceLT, Int.reduceLE, Int.reduceEq, Int.reduceToNat, Int.reduceAdd, Int.reduceSub, Int.reduceNeg, Int.reduceBEq, Int.reduceBNe, Nat.reduceBEq, Int.cast_ofNat_Int, decide_true, decide_false, ne_eq, eq_self_iff_true, beq_eq_false_iff_ne, bne_iff_ne, List.replicate, eqz_end, eqz_mid, eqz_nil] <;> simp <;> done) | (simp -implicitDefEqProofs only [SD, SF, SL, e_nf, reduceCtorEq, implies_true, ↓reduceIte, Nat.reduceEqDiff, Nat.reduceAdd, Nat.reduceMul, Nat.reduceSub, Nat.reduceLeDiff, Nat.reduceLT, Int.reduceLT, Int.reduceLE, Int.reduceEq, Int.reduceToNat, Int.reduceAdd, Int.reduceSub, Int.reduceNeg, Int.reduceBEq, Int.reduceBNe, Nat.reduceBEq, Int.cast_ofNat_Int, decide_true, decide_false, ne_eq, eq_self_iff_true, beq_eq_false_iff_ne, bne_iff_ne, List.replicate, eqz_end, eqz_mid, eqz_nil, *] <;> simp_all <;> done))
          | (with_reducible refine ite_in (fun _ => ?_) (fun _ => ?_))
          | (with_reducible refine ⟨fun _ => ?_, fun _ => ?_⟩)
          | (with_reducible refine And.intro ?_ ?_)
          | (with_reducible intro _)
          | (with_reducible exact is_in _)
          | (simp -implicitDefEqProofs only [SD, SF, SL, e_nf, reduceCtorEq, implies_true, ↓reduceIte, Nat.reduceEqDiff, Nat.reduceAdd, Nat.reduceMul, Nat.reduceSub, Nat.reduceLeDiff, Nat.reduceLT, Int.reduceLT, Int.reduceLE, Int.reduceEq, Int.reduceToNat, Int.reduceAdd, Int.reduceSub, Int.reduceNeg, Int.reduceBEq, Int.reduceBNe, Nat.reduceBEq, Int.cast_ofNat_Int, decide_true, decide_false, ne_eq, eq_self_iff_true, beq_eq_false_iff_ne, bne_iff_ne, List.replicate, eqz_end, eqz_mid, eqz_nil, *]))))
        all_goals (simp_all [eqz_end, eqz_mid, eqz_nil])
  · have hne : a ≠ b := fun e => h (by rw [e])
    iterate 30 (all_goals (try (first
      | (with_reducible refine ite_in (fun _ => ?_) (fun _ => ?_))
      | (with_reducible refine ⟨fun _ => ?_, fun _ => ?_⟩)
      | (with_reducible refine And.intro ?_ ?_)
      | (with_reducible intro _)
      | (with_reducible exact is_in _)
      | (simp -implicitDefEqProofs only [SD, SF, SL, e_nf, reduceCtorEq, implies_true, ↓reduceIte, Nat.reduceEqDiff, Nat.reduceAdd, Nat.reduceMul, Nat.reduceSub, Nat.reduceLeDiff, Nat.reduceLT, Int.reduceLT, Int.reduceLE, Int.reduceEq, Int.reduceToNat, Int.reduceAdd, Int.reduceSub, Int.reduceNeg, Int.reduceBEq, Int.reduceBNe, Nat.reduceBEq, Int.cast_ofNat_Int, decide_true, decide_false, ne_eq, eq_self_iff_true, beq_eq_false_iff_ne, bne_iff_ne, List.replicate, len_cast, *]))))
    all_goals (simp_all)

end Go.Proofs.YtcolebkklojccaaGreat.E
