/-
  RbC: walks of functions of the program at data level.
-/
import Derived.Test.YthackanfbemabaaProg
import Derived.Test.YthackanfbemabaaEngZ
import Derived.Test.YthackanfbemabaaRbB
import Derived.KernelRfl
set_option linter.unusedVariables false
set_option linter.unusedSimpArgs false
namespace Go.Proofs.Ythackanfbemabaa.E
open Go
set_option maxHeartbeats 4000000
set_option maxRecDepth 100000
set_option linter.unusedSimpArgs false
set_option linter.unusedVariables false
attribute [local congr] c_wp c_ops c_op c_opS c_run c_runS c_dt c_seq c_blk c_loop c_S c_put c_bind c_mv c_pick c_nt c_ng c_bin c_binI c_binS c_beq c_B c_eqa c_hd c_cells c_blkK c_box c_vec c_take c_ld c_ldF c_cellsK c_st c_fld c_fldv c_ix c_ixp c_ixv c_ixs c_sub c_subs c_len c_lens c_src c_dst c_ow c_app c_ext c_mm c_conv c_str c_isn c_fill c_rows c_boxo c_frz c_frzO c_frzA c_frzV c_spec c_specO c_fz c_fn c_gv c_cond c_res1 c_resL c_ret c_qret c_ite c_unr c_nx c_bk c_cut c_is
attribute [local irreducible] dwp
def ac30 : AC := (.seq (.ops [⟨(some 2), none, (.box (.t 0))⟩, ⟨(some 3), none, (.box (.t 1))⟩, ⟨(some 4), none, (.mv (.c (.bool false)))⟩]) (.seq (.seq (.ops [⟨(some 10), none, (.fld 0 (.t 2))⟩, ⟨(some 11), none, (.ld false 1 (.t 10))⟩, ⟨(some 12), none, (.len (.t 11))⟩, ⟨(some 13), none, (.fld 0 (.t 3))⟩, ⟨(some 14), none, (.ld false 1 (.t 13))⟩, ⟨(some 15), none, (.len (.t 14))⟩, ⟨(some 16), none, (.bin .neq (.t 12) (.t 15))⟩, ⟨(some 17), none, (.mv (.t 16))⟩, ⟨(some 18), (some (17, false)), (.fld 1 (.t 2))⟩, ⟨(some 19), (some (17, false)), (.ld false 1 (.t 18))⟩, ⟨(some 20), (some (17, false)), (.len (.t 19))⟩, ⟨(some 21), (some (17, false)), (.fld 1 (.t 3))⟩, ⟨(some 22), (some (17, false)), (.ld false 1 (.t 21))⟩, ⟨(some 23), (some (17, false)), (.len (.t 22))⟩, ⟨(some 24), (some (17, false)), (.bin .neq (.t 20) (.t 23))⟩, ⟨(some 25), none, (.pick (.t 17) (.c (.bool true)) (.t 24))⟩]) (.cond (.t 25) (.seq (.ops [⟨(some 4), none, (.mv (.c (.bool false)))⟩]) .ret) .skip)) (.seq (.seq (.ops [⟨(some 5), none, (.mv (.c (.int .i64 0)))⟩]) (.block 0 (.loop (.seq (.seq (.ops [⟨(some 26), none, (.mv (.t 5))⟩, ⟨(some 27), none, (.fld 0 (.t 2))⟩, ⟨(some 28), none, (.ld false 1 (.t 27))⟩, ⟨(some 29), none, (.len (.t 28))⟩, ⟨(some 30), none, (.bin .lss (.t 26) (.t 29))⟩]) (.cond (.t 30) .skip (.exit 0))) (.seq (.block 1 (.seq (.draw (.q false ⟨(some 33), none, (.fld 0 (.t 2))⟩ (.q false ⟨(some 34), none, (.ld false 1 (.t 33))⟩ (.q false ⟨(some 35), none, (.mv (.t 5))⟩ (.q false ⟨(some 36), none, (.ix 2 (.t 34) (.t 35))⟩ (.q false ⟨(some 37), none, (.fld 0 (.t 36))⟩ (.q false ⟨(some 38), none, (.ld false 1 (.t 37))⟩ (.q false ⟨(some 39), none, (.fld 0 (.t 3))⟩ (.q false ⟨(some 40), none, (.ld false 1 (.t 39))⟩ (.q false ⟨(some 41), none, (.mv (.t 5))⟩ (.q false ⟨(some 42), none, (.ix 2 (.t 40) (.t 41))⟩ (.q false ⟨(some 43), none, (.fld 0 (.t 42))⟩ (.q false ⟨(some 44), none, (.ld false 1 (.t 43))⟩ (.q false ⟨(some 45), none, (.bin .neq (.t 38) (.t 44))⟩ (.q false ⟨(some 46), none, (.mv (.t 45))⟩ (.q false ⟨(some 47), (some (46, false)), (.fld 0 (.t 2))⟩ (.q false ⟨(some 48), (some (46, false)), (.ld false 1 (.t 47))⟩ (.q false ⟨(some 49), (some (46, false)), (.mv (.t 5))⟩ (.q false ⟨(some 50), (some (46, false)), (.ix 2 (.t 48) (.t 49))⟩ (.q false ⟨(some 51), (some (46, false)), (.fld 1 (.t 50))⟩ (.q false ⟨(some 52), (some (46, false)), (.ld false 1 (.t 51))⟩ (.q false ⟨(some 53), (some (46, false)), (.fld 0 (.t 3))⟩ (.q false ⟨(some 54), (some (46, false)), (.ld false 1 (.t 53))⟩ (.q false ⟨(some 55), (some (46, false)), (.mv (.t 5))⟩ (.q false ⟨(some 56), (some (46, false)), (.ix 2 (.t 54) (.t 55))⟩ (.q false ⟨(some 57), (some (46, false)), (.fld 1 (.t 56))⟩ (.q false ⟨(some 58), (some (46, false)), (.ld false 1 (.t 57))⟩ (.q false ⟨(some 59), (some (46, false)), (.bin .neq (.t 52) (.t 58))⟩ (.q false ⟨(some 60), none, (.pick (.t 46) (.c (.bool true)) (.t 59))⟩ .nil))))))))))))))))))))))))))))) (.cond (.t 60) (.seq (.ops [⟨(some 4), none, (.mv (.c (.bool false)))⟩]) .ret) .skip))) (.ops [⟨(some 31), none, (.mv (.t 5))⟩, ⟨(some 32), none, (.bin .add (.t 31) (.c (.int .i64 1)))⟩, ⟨(some 5), none, (.mv (.t 32))⟩])))))) (.seq (.seq (.ops [⟨(some 6), none, (.mv (.c (.int .i64 0)))⟩]) (.block 2 (.loop (.seq (.seq (.ops [⟨(some 61), none, (.mv (.t 6))⟩, ⟨(some 62), none, (.fld 1 (.t 2))⟩, ⟨(some 63), none, (.ld false 1 (.t 62))⟩, ⟨(some 64), none, (.len (.t 63))⟩, ⟨(some 65), none, (.bin .lss (.t 61) (.t 64))⟩]) (.cond (.t 65) .skip (.exit 2))) (.seq (.block 3 (.seq (.draw (.q false ⟨(some 68), none, (.fld 1 (.t 2))⟩ (.q false ⟨(some 69), none, (.ld false 1 (.t 68))⟩ (.q false ⟨(some 70), none, (.mv (.t 6))⟩ (.q false ⟨(some 71), none, (.ix 2 (.t 69) (.t 70))⟩ (.q false ⟨(some 72), none, (.fld 0 (.t 71))⟩ (.q false ⟨(some 73), none, (.ld false 1 (.t 72))⟩ (.q false ⟨(some 74), none, (.fld 1 (.t 3))⟩ (.q false ⟨(some 75), none, (.ld false 1 (.t 74))⟩ (.q false ⟨(some 76), none, (.mv (.t 6))⟩ (.q false ⟨(some 77), none, (.ix 2 (.t 75) (.t 76))⟩ (.q false ⟨(some 78), none, (.fld 0 (.t 77))⟩ (.q false ⟨(some 79), none, (.ld false 1 (.t 78))⟩ (.q false ⟨(some 80), none, (.bin .neq (.t 73) (.t 79))⟩ (.q false ⟨(some 81), none, (.mv (.t 80))⟩ (.q false ⟨(some 82), (some (81, false)), (.fld 1 (.t 2))⟩ (.q false ⟨(some 83), (some (81, false)), (.ld false 1 (.t 82))⟩ (.q false ⟨(some 84), (some (81, false)), (.mv (.t 6))⟩ (.q false ⟨(some 85), (some (81, false)), (.ix 2 (.t 83) (.t 84))⟩ (.q false ⟨(some 86), (some (81, false)), (.fld 1 (.t 85))⟩ (.q false ⟨(some 87), (some (81, false)), (.ld false 1 (.t 86))⟩ (.q false ⟨(some 88), (some (81, false)), (.fld 1 (.t 3))⟩ (.q false ⟨(some 89), (some (81, false)), (.ld false 1 (.t 88))⟩ (.q false ⟨(some 90), (some (81, false)), (.mv (.t 6))⟩ (.q false ⟨(some 91), (some (81, false)), (.ix 2 (.t 89) (.t 90))⟩ (.q false ⟨(some 92), (some (81, false)), (.fld 1 (.t 91))⟩ (.q false ⟨(some 93), (some (81, false)), (.ld false 1 (.t 92))⟩ (.q false ⟨(some 94), (some (81, false)), (.bin .neq (.t 87) (.t 93))⟩ (.q false ⟨(some 95), none, (.pick (.t 81) (.c (.bool true)) (.t 94))⟩ .nil))))))))))))))))))))))))))))) (.cond (.t 95) (.seq (.ops [⟨(some 4), none, (.mv (.c (.bool false)))⟩]) .ret) .skip))) (.ops [⟨(some 66), none, (.mv (.t 6))⟩, ⟨(some 67), none, (.bin .add (.t 66) (.c (.int .i64 1)))⟩, ⟨(some 6), none, (.mv (.t 67))⟩])))))) (.seq (.draw (.q false ⟨(some 96), none, (.ld true 9 (.t 2))⟩ (.q false ⟨(some 98), none, (.ld true 9 (.t 3))⟩ (.op ⟨(some 97), none, (.call false 42 [(.t 96)])⟩ (.op ⟨(some 99), none, (.call false 42 [(.t 98)])⟩ (.q false ⟨(some 7), none, (.mv (.t 97))⟩ (.q false ⟨(some 8), none, (.mv (.t 99))⟩ .nil))))))) (.seq (.seq (.ops [⟨(some 9), none, (.mv (.c (.int .i64 0)))⟩]) (.block 4 (.loop (.seq (.seq (.ops [⟨(some 100), none, (.mv (.t 9))⟩, ⟨(some 101), none, (.mv (.t 7))⟩, ⟨(some 102), none, (.len (.t 101))⟩, ⟨(some 103), none, (.bin .lss (.t 100) (.t 102))⟩]) (.cond (.t 103) .skip (.exit 4))) (.seq (.block 5 (.seq (.draw (.q false ⟨(some 106), none, (.mv (.t 7))⟩ (.q false ⟨(some 107), none, (.mv (.t 9))⟩ (.q false ⟨(some 108), none, (.ix 1 (.t 106) (.t 107))⟩ (.q false ⟨(some 109), none, (.ld false 1 (.t 108))⟩ (.q false ⟨(some 110), none, (.mv (.t 8))⟩ (.q false ⟨(some 111), none, (.mv (.t 9))⟩ (.q false ⟨(some 112), none, (.ix 1 (.t 110) (.t 111))⟩ (.q false ⟨(some 113), none, (.ld false 1 (.t 112))⟩ (.q false ⟨(some 114), none, (.bin .neq (.t 109) (.t 113))⟩ .nil)))))))))) (.cond (.t 114) (.seq (.ops [⟨(some 4), none, (.mv (.c (.bool false)))⟩]) .ret) .skip))) (.ops [⟨(some 104), none, (.mv (.t 9))⟩, ⟨(some 105), none, (.bin .add (.t 104) (.c (.int .i64 1)))⟩, ⟨(some 9), none, (.mv (.t 105))⟩])))))) (.seq (.ops [⟨(some 4), none, (.mv (.c (.bool true)))⟩]) .ret)))))))
theorem tr30 : Try.f30.body.bind (trCode Try.prog) = some (strip ac30) := by kernel_rfl
theorem spec30 (v w : Lv) : Spec Try.prog 30 [.fz (.agg (encLv v)), .fz (.agg (encLv w))] (.fz (.bool (decide (v = w)))) := by
  refine spec_at (n := 113) (ars := [(.t 4)]) (ac := ac30) Try.func30 (by kernel_rfl) (by kernel_rfl) tr30 (by kernel_rfl) ?_
  unfold ac30
  obtain ⟨us, ks, c2, c3, c4, c5, c6, c7, c8⟩ := v
  obtain ⟨us', ks', d2, d3, d4, d5, d6, d7, d8⟩ := w
  by_cases h1 : us.length = us'.length
  · by_cases h2 : ks.length = ks'.length
    · obtain ⟨z1, rfl, rfl⟩ := zip_of_len h1
      obtain ⟨z2, rfl, rfl⟩ := zip_of_len h2
      rw [show decide ((⟨z1.map Prod.fst, z2.map Prod.fst, c2, c3, c4, c5, c6, c7, c8⟩ : Lv) = ⟨z1.map Prod.snd, z2.map Prod.snd, d2, d3, d4, d5, d6, d7, d8⟩) = decide (eqz z1 ∧ eqz z2 ∧ c2 = d2 ∧ c3 = d3 ∧ c4 = d4 ∧ c5 = d5 ∧ c6 = d6 ∧ c7 = d7 ∧ c8 = d8) from decide_eq_decide.2 (by simp only [Lv.mk.injEq, eqz])]
      iterate 12 (all_goals (try (first
        | (with_reducible refine ite_in (fun _ => ?_) (fun _ => ?_))
        | (with_reducible refine ⟨fun _ => ?_, fun _ => ?_⟩)
        | (with_reducible refine And.intro ?_ ?_)
        | (with_reducible intro _)
        | (with_reducible exact is_in _)
        | (simp -implicitDefEqProofs only [SD, SF, SL, e_nf, reduceCtorEq, implies_true, ↓reduceIte, Nat.reduceEqDiff, Nat.reduceAdd, Nat.reduceMul, Nat.reduceSub, Nat.reduceLeDiff, Nat.reduceLT, Int.reduceLT, Int.reduceLE, Int.reduceEq, Int.reduceToNat, Int.reduceAdd, Int.reduceSub, Int.reduceNeg, Int.reduceBEq, Int.reduceBNe, Nat.reduceBEq, Int.cast_ofNat_Int, decide_true, decide_false, ne_eq, eq_self_iff_true, beq_eq_false_iff_ne, bne_iff_ne, List.replicate, encLv, len_cast, *]))))
      refine loop_q (X := List (LU × LU) × List (LU × LU) × Unit) (fun n x => z1 = x.1 ++ x.2.1 ∧ n = x.2.1.length ∧ (eqz x.1)) (fun x => [(5, .int .i64 x.1.length)]) (fun _ => []) [4, 26, 27, 28, 29, 30, 31, 32, 33, 34, 35, 36, 37, 38, 39, 40, 41, 42, 43, 44, 45, 46, 47, 48, 49, 50, 51, 52, 53, 54, 55, 56, 57, 58, 59, 60] [] (z1).length ([], z1, ()) ⟨rfl, rfl, by first | rfl | assumption | (simp_all [eqz_end, eqz_mid, eqz_nil, LU_eq, LK_eq]; done) | grind [eqz_end, eqz_mid, eqz_nil, LU_eq, LK_eq]⟩ ?_ ?_
      · simp -implicitDefEqProofs only [SD, SF, SL, e_nf, reduceCtorEq, implies_true, ↓reduceIte, Nat.reduceEqDiff, Nat.reduceAdd, Nat.reduceMul, Nat.reduceSub, Nat.reduceLeDiff, Nat.reduceLT, Int.reduceLT, Int.reduceLE, Int.reduceEq, Int.reduceToNat, Int.reduceAdd, Int.reduceSub, Int.reduceNeg, Int.reduceBEq, Int.reduceBNe, Nat.reduceBEq, Int.cast_ofNat_Int, decide_true, decide_false, ne_eq, eq_self_iff_true, beq_eq_false_iff_ne, bne_iff_ne, List.replicate, eqz_end, eqz_mid, eqz_nil, LU_eq, LK_eq, len_cast] <;> simp
      · rintro n ⟨pre1, rest1, a1⟩ ⟨he1, rfl, hI1⟩
        dsimp only at he1 hI1
        cases rest1 with
        | nil =>
          obtain rfl : z1 = pre1 := by simpa using he1
          clear he1
          have hlt1 : ¬ (((z1).length : Int) < ((z1).length : Int)) := Int.lt_irrefl _
          iterate 30 (all_goals (try (first
            | (with_reducible refine ite_in (fun _ => ?_) (fun _ => ?_))
            | (with_reducible refine ⟨fun _ => ?_, fun _ => ?_⟩)
            | (with_reducible refine And.intro ?_ ?_)
            | (with_reducible intro _)
            | (with_reducible exact is_in _)
            | (simp -implicitDefEqProofs only [SD, SF, SL, e_nf, reduceCtorEq, implies_true, ↓reduceIte, Nat.reduceEqDiff, Nat.reduceAdd, Nat.reduceMul, Nat.reduceSub, Nat.reduceLeDiff, Nat.reduceLT, Int.reduceLT, Int.reduceLE, Int.reduceEq, Int.reduceToNat, Int.reduceAdd, Int.reduceSub, Int.reduceNeg, Int.reduceBEq, Int.reduceBNe, Nat.reduceBEq, Int.cast_ofNat_Int, decide_true, decide_false, ne_eq, eq_self_iff_true, beq_eq_false_iff_ne, bne_iff_ne, List.replicate, eqz_end, eqz_mid, eqz_nil, LU_eq, LK_eq, len_cast, *]))))
          refine loop_q (X := List (LK × LK) × List (LK × LK) × Unit) (fun n x => z2 = x.1 ++ x.2.1 ∧ n = x.2.1.length ∧ (eqz x.1)) (fun x => [(6, .int .i64 x.1.length)]) (fun _ => []) [4, 61, 62, 63, 64, 65, 66, 67, 68, 69, 70, 71, 72, 73, 74, 75, 76, 77, 78, 79, 80, 81, 82, 83, 84, 85, 86, 87, 88, 89, 90, 91, 92, 93, 94, 95] [] (z2).length ([], z2, ()) ⟨rfl, rfl, by first | rfl | assumption | (simp_all [eqz_end, eqz_mid, eqz_nil, LU_eq, LK_eq]; done) | grind [eqz_end, eqz_mid, eqz_nil, LU_eq, LK_eq]⟩ ?_ ?_
          · simp -implicitDefEqProofs only [SD, SF, SL, e_nf, reduceCtorEq, implies_true, ↓reduceIte, Nat.reduceEqDiff, Nat.reduceAdd, Nat.reduceMul, Nat.reduceSub, Nat.reduceLeDiff, Nat.reduceLT, Int.reduceLT, Int.reduceLE, Int.reduceEq, Int.reduceToNat, Int.reduceAdd, Int.reduceSub, Int.reduceNeg, Int.reduceBEq, Int.reduceBNe, Nat.reduceBEq, Int.cast_ofNat_Int, decide_true, decide_false, ne_eq, eq_self_iff_true, beq_eq_false_iff_ne, bne_iff_ne, List.replicate, eqz_end, eqz_mid, eqz_nil, LU_eq, LK_eq, len_cast] <;> simp
          · rintro n ⟨pre2, rest2, a2⟩ ⟨he2, rfl, hI2⟩
            dsimp only at he2 hI2
            cases rest2 with
            | nil =>
              obtain rfl : z2 = pre2 := by simpa using he2
              clear he2
              have hlt2 : ¬ (((z2).length : Int) < ((z2).length : Int)) := Int.lt_irrefl _
              iterate 30 (all_goals (try (first
                | (with_reducible refine ite_in (fun _ => ?_) (fun _ => ?_))
                | (with_reducible refine ⟨fun _ => ?_, fun _ => ?_⟩)
                | (with_reducible refine And.intro ?_ ?_)
                | (with_reducible intro _)
                | (with_reducible exact is_in _)
                | (simp -implicitDefEqProofs only [SD, SF, SL, e_nf, reduceCtorEq, implies_true, ↓reduceIte, Nat.reduceEqDiff, Nat.reduceAdd, Nat.reduceMul, Nat.reduceSub, Nat.reduceLeDiff, Nat.reduceLT, Int.reduceLT, Int.reduceLE, Int.reduceEq, Int.reduceToNat, Int.reduceAdd, Int.reduceSub, Int.reduceNeg, Int.reduceBEq, Int.reduceBNe, Nat.reduceBEq, Int.cast_ofNat_Int, decide_true, decide_false, ne_eq, eq_self_iff_true, beq_eq_false_iff_ne, bne_iff_ne, List.replicate, eqz_end, eqz_mid, eqz_nil, LU_eq, LK_eq, len_cast, *]))))
              iterate 12 (all_goals (try (first
                | ((with_reducible refine of_kSpec ?_); refine call_fz (spec42 ⟨z1.map Prod.fst, z2.map Prod.fst, c2, c3, c4, c5, c6, c7, c8⟩) rfl ?_)
                | ((with_reducible refine of_kSpec ?_); refine call_fz (spec42 ⟨z1.map Prod.snd, z2.map Prod.snd, d2, d3, d4, d5, d6, d7, d8⟩) rfl ?_)
                | (with_reducible refine ite_in (fun _ => ?_) (fun _ => ?_))
                | (with_reducible refine ⟨fun _ => ?_, fun _ => ?_⟩)
                | (with_reducible refine And.intro ?_ ?_)
                | (with_reducible intro _)
                | (with_reducible exact is_in _)
                | (simp -implicitDefEqProofs only [SD, SF, SL, e_nf, reduceCtorEq, implies_true, ↓reduceIte, Nat.reduceEqDiff, Nat.reduceAdd, Nat.reduceMul, Nat.reduceSub, Nat.reduceLeDiff, Nat.reduceLT, Int.reduceLT, Int.reduceLE, Int.reduceEq, Int.reduceToNat, Int.reduceAdd, Int.reduceSub, Int.reduceNeg, Int.reduceBEq, Int.reduceBNe, Nat.reduceBEq, Int.cast_ofNat_Int, decide_true, decide_false, ne_eq, eq_self_iff_true, beq_eq_false_iff_ne, bne_iff_ne, List.replicate, nums, len_cast, *]))))
              refine loop_u 8 ?_
              iterate 60 (all_goals (try (first
                | (with_reducible refine unr_next ?_)
                | (with_reducible refine ite_in (fun _ => ?_) (fun _ => ?_))
                | (with_reducible refine ⟨fun _ => ?_, fun _ => ?_⟩)
                | (with_reducible refine And.intro ?_ ?_)
                | (with_reducible intro _)
                | (with_reducible exact is_in _)
                | (simp -implicitDefEqProofs only [SD, SF, SL, e_nf, reduceCtorEq, implies_true, ↓reduceIte, Nat.reduceEqDiff, Nat.reduceAdd, Nat.reduceMul, Nat.reduceSub, Nat.reduceLeDiff, Nat.reduceLT, Int.reduceLT, Int.reduceLE, Int.reduceEq, Int.reduceToNat, Int.reduceAdd, Int.reduceSub, Int.reduceNeg, Int.reduceBEq, Int.reduceBNe, Nat.reduceBEq, Int.cast_ofNat_Int, decide_true, decide_false, ne_eq, eq_self_iff_true, beq_eq_false_iff_ne, bne_iff_ne, List.replicate, nums, len_cast, wr_lit, *]))))
              all_goals (simp_all)
            | cons x2 rest2 =>
              have hlt2 := cut_lt he2
              have hx2 := cutD1 encLK he2
              have hy2 := cutD2 encLK he2
              have hez2 := eqz_mid pre2 x2 rest2
              rw [← he2] at hez2
              simp only [encLK] at hx2 hy2
              simp -implicitDefEqProofs only [SD, SF, SL, e_nf, reduceCtorEq, implies_true, ↓reduceIte, Nat.reduceEqDiff, Nat.reduceAdd, Nat.reduceMul, Nat.reduceSub, Nat.reduceLeDiff, Nat.reduceLT, Int.reduceLT, Int.reduceLE, Int.reduceEq, Int.reduceToNat, Int.reduceAdd, Int.reduceSub, Int.reduceNeg, Int.reduceBEq, Int.reduceBNe, Nat.reduceBEq, Int.cast_ofNat_Int, decide_true, decide_false, ne_eq, eq_self_iff_true, beq_eq_false_iff_ne, bne_iff_ne, List.replicate, eqz_end, eqz_mid, eqz_nil, LU_eq, LK_eq, len_cast, hlt2]
              intro hl
              have hw2 := wrap_len (n := pre2.length) (m := (z2).length) (cut_lt' he2) (by simpa using hl)
              replace he2 := Hd.mk he2
              iterate 30 (all_goals (try (first
                | ((with_reducible refine back_in rest2.length [4, 61, 62, 63, 64, 65, 66, 67, 68, 69, 70, 71, 72, 73, 74, 75, 76, 77, 78, 79, 80, 81, 82, 83, 84, 85, 86, 87, 88, 89, 90, 91, 92, 93, 94, 95] [] (pre2 ++ [x2], rest2, a2) ?_ ⟨?_, ?_, ?_⟩ ?_)
                   · simp
                   · exact cut_snoc he2.out
                   · rfl
                   · first | rfl | assumption | (simp_all [eqz_end, eqz_mid, eqz_nil, LU_eq, LK_eq]; done) | grind [eqz_end, eqz_mid, eqz_nil, LU_eq, LK_eq]
                   · first | (simp -implicitDefEqProofs only [SD, SF, SL, e_nf, reduceCtorEq, implies_true, ↓reduceIte, Nat.reduceEqDiff, Nat.reduceAdd, Nat.reduceMul, Nat.reduceSub, Nat.reduceLeDiff, Nat.reduceLT, Int.reduceLT, Int.reduceLE, Int.reduceEq, Int.reduceToNat, Int.reduceAdd, Int.reduceSub, Int.reduceNeg, Int.reduceBEq, Int.reduceBNe, Nat.reduceBEq, Int.cast_ofNat_Int, decide_true, decide_false, ne_eq, eq_self_iff_true, beq_eq_false_iff_ne, bne_iff_ne, List.replicate, eqz_end, eqz_mid, eqz_nil, LU_eq, LK_eq, len_cast] <;> simp <;> done) | (simp -implicitDefEqProofs only [SD, SF, SL, e_nf, reduceCtorEq, implies_true, ↓reduceIte, Nat.reduceEqDiff, Nat.reduceAdd, Nat.reduceMul, Nat.reduceSub, Nat.reduceLeDiff, Nat.reduceLT, Int.reduceLT, Int.reduceLE, Int.reduceEq, Int.reduceToNat, Int.reduceAdd, Int.reduceSub, Int.reduceNeg, Int.reduceBEq, Int.reduceBNe, Nat.reduceBEq, Int.cast_ofNat_Int, decide_true, decide_false, ne_eq, eq_self_iff_true, beq_eq_false_iff_ne, bne_iff_ne, List.replicate, eqz_end, eqz_mid, eqz_nil, LU_eq, LK_eq, len_cast, *] <;> simp_all <;> done))
                | (with_reducible refine ite_in (fun _ => ?_) (fun _ => ?_))
                | (with_reducible refine ⟨fun _ => ?_, fun _ => ?_⟩)
                | (with_reducible refine And.intro ?_ ?_)
                | (with_reducible intro _)
                | (with_reducible exact is_in _)
                | (simp -implicitDefEqProofs only [SD, SF, SL, e_nf, reduceCtorEq, implies_true, ↓reduceIte, Nat.reduceEqDiff, Nat.reduceAdd, Nat.reduceMul, Nat.reduceSub, Nat.reduceLeDiff, Nat.reduceLT, Int.reduceLT, Int.reduceLE, Int.reduceEq, Int.reduceToNat, Int.reduceAdd, Int.reduceSub, Int.reduceNeg, Int.reduceBEq, Int.reduceBNe, Nat.reduceBEq, Int.cast_ofNat_Int, decide_true, decide_false, ne_eq, eq_self_iff_true, beq_eq_false_iff_ne, bne_iff_ne, List.replicate, eqz_end, eqz_mid, eqz_nil, LU_eq, LK_eq, len_cast, *]))))
              all_goals (simp_all [eqz_end, eqz_mid, eqz_nil, LU_eq, LK_eq])
        | cons x1 rest1 =>
          have hlt1 := cut_lt he1
          have hx1 := cutD1 encLU he1
          have hy1 := cutD2 encLU he1
          have hez1 := eqz_mid pre1 x1 rest1
          rw [← he1] at hez1
          simp only [encLU] at hx1 hy1
          simp -implicitDefEqProofs only [SD, SF, SL, e_nf, reduceCtorEq, implies_true, ↓reduceIte, Nat.reduceEqDiff, Nat.reduceAdd, Nat.reduceMul, Nat.reduceSub, Nat.reduceLeDiff, Nat.reduceLT, Int.reduceLT, Int.reduceLE, Int.reduceEq, Int.reduceToNat, Int.reduceAdd, Int.reduceSub, Int.reduceNeg, Int.reduceBEq, Int.reduceBNe, Nat.reduceBEq, Int.cast_ofNat_Int, decide_true, decide_false, ne_eq, eq_self_iff_true, beq_eq_false_iff_ne, bne_iff_ne, List.replicate, eqz_end, eqz_mid, eqz_nil, LU_eq, LK_eq, len_cast, hlt1]
          intro hl
          have hw1 := wrap_len (n := pre1.length) (m := (z1).length) (cut_lt' he1) (by simpa using hl)
          replace he1 := Hd.mk he1
          iterate 30 (all_goals (try (first
            | ((with_reducible refine back_in rest1.length [4, 26, 27, 28, 29, 30, 31, 32, 33, 34, 35, 36, 37, 38, 39, 40, 41, 42, 43, 44, 45, 46, 47, 48, 49, 50, 51, 52, 53, 54, 55, 56, 57, 58, 59, 60] [] (pre1 ++ [x1], rest1, a1) ?_ ⟨?_, ?_, ?_⟩ ?_)
               · simp
               · exact cut_snoc he1.out
               · rfl
               · first | rfl | assumption | (simp_all [eqz_end, eqz_mid, eqz_nil, LU_eq, LK_eq]; done) | grind [eqz_end, eqz_mid, eqz_nil, LU_eq, LK_eq]
               · first | (simp -implicitDefEqProofs only [SD, SF, SL, e_nf, reduceCtorEq, implies_true, ↓reduceIte, Nat.reduceEqDiff, Nat.reduceAdd, Nat.reduceMul, Nat.reduceSub, Nat.reduceLeDiff, Nat.reduceLT, Int.reduceLT, Int.reduceLE, Int.reduceEq, Int.reduceToNat, Int.reduceAdd, Int.reduceSub, Int.reduceNeg, Int.reduceBEq, Int.reduceBNe, Nat.reduceBEq, Int.cast_ofNat_Int, decide_true, decide_false, ne_eq, eq_self_iff_true, beq_eq_false_iff_ne, bne_iff_ne, List.replicate, eqz_end, eqz_mid, eqz_nil, LU_eq, LK_eq, len_cast] <;> simp <;> done) | (simp -implicitDefEqProofs only [SD, SF, SL, e_nf, reduceCtorEq, implies_true, ↓reduceIte, Nat.reduceEqDiff, Nat.reduceAdd, Nat.reduceMul, Nat.reduceSub, Nat.reduceLeDiff, Nat.reduceLT, Int.reduceLT, Int.reduceLE, Int.reduceEq, Int.reduceToNat, Int.reduceAdd, Int.reduceSub, Int.reduceNeg, Int.reduceBEq, Int.reduceBNe, Nat.reduceBEq, Int.cast_ofNat_Int, decide_true, decide_false, ne_eq, eq_self_iff_true, beq_eq_false_iff_ne, bne_iff_ne, List.replicate, eqz_end, eqz_mid, eqz_nil, LU_eq, LK_eq, len_cast, *] <;> simp_all <;> done))
            | (with_reducible refine ite_in (fun _ => ?_) (fun _ => ?_))
            | (with_reducible refine ⟨fun _ => ?_, fun _ => ?_⟩)
            | (with_reducible refine And.intro ?_ ?_)
            | (with_reducible intro _)
            | (with_reducible exact is_in _)
            | (simp -implicitDefEqProofs only [SD, SF, SL, e_nf, reduceCtorEq, implies_true, ↓reduceIte, Nat.reduceEqDiff, Nat.reduceAdd, Nat.reduceMul, Nat.reduceSub, Nat.reduceLeDiff, Nat.reduceLT, Int.reduceLT, Int.reduceLE, Int.reduceEq, Int.reduceToNat, Int.reduceAdd, Int.reduceSub, Int.reduceNeg, Int.reduceBEq, Int.reduceBNe, Nat.reduceBEq, Int.cast_ofNat_Int, decide_true, decide_false, ne_eq, eq_self_iff_true, beq_eq_false_iff_ne, bne_iff_ne, List.replicate, eqz_end, eqz_mid, eqz_nil, LU_eq, LK_eq, len_cast, *]))))
          all_goals (simp_all [eqz_end, eqz_mid, eqz_nil, LU_eq, LK_eq])
    · have hne : ks ≠ ks' := fun e => h2 (by rw [e])
      iterate 30 (all_goals (try (first
        | (with_reducible refine ite_in (fun _ => ?_) (fun _ => ?_))
        | (with_reducible refine ⟨fun _ => ?_, fun _ => ?_⟩)
        | (with_reducible refine And.intro ?_ ?_)
        | (with_reducible intro _)
        | (with_reducible exact is_in _)
        | (simp -implicitDefEqProofs only [SD, SF, SL, e_nf, reduceCtorEq, implies_true, ↓reduceIte, Nat.reduceEqDiff, Nat.reduceAdd, Nat.reduceMul, Nat.reduceSub, Nat.reduceLeDiff, Nat.reduceLT, Int.reduceLT, Int.reduceLE, Int.reduceEq, Int.reduceToNat, Int.reduceAdd, Int.reduceSub, Int.reduceNeg, Int.reduceBEq, Int.reduceBNe, Nat.reduceBEq, Int.cast_ofNat_Int, decide_true, decide_false, ne_eq, eq_self_iff_true, beq_eq_false_iff_ne, bne_iff_ne, List.replicate, encLv, len_cast, Lv.mk.injEq, *]))))
      all_goals (simp_all)
  · have hne : us ≠ us' := fun e => h1 (by rw [e])
    iterate 30 (all_goals (try (first
      | (with_reducible refine ite_in (fun _ => ?_) (fun _ => ?_))
      | (with_reducible refine ⟨fun _ => ?_, fun _ => ?_⟩)
      | (with_reducible refine And.intro ?_ ?_)
      | (with_reducible intro _)
      | (with_reducible exact is_in _)
      | (simp -implicitDefEqProofs only [SD, SF, SL, e_nf, reduceCtorEq, implies_true, ↓reduceIte, Nat.reduceEqDiff, Nat.reduceAdd, Nat.reduceMul, Nat.reduceSub, Nat.reduceLeDiff, Nat.reduceLT, Int.reduceLT, Int.reduceLE, Int.reduceEq, Int.reduceToNat, Int.reduceAdd, Int.reduceSub, Int.reduceNeg, Int.reduceBEq, Int.reduceBNe, Nat.reduceBEq, Int.cast_ofNat_Int, decide_true, decide_false, ne_eq, eq_self_iff_true, beq_eq_false_iff_ne, bne_iff_ne, List.replicate, encLv, len_cast, Lv.mk.injEq, *]))))
    all_goals (simp_all)

end Go.Proofs.Ythackanfbemabaa.E
