/-
  FiT: walks of functions of the program at data level.
-/
import Derived.Test.YtamcbdflmephdaaProg
import Derived.Test.YtamcbdflmephdaaEngZ
import Derived.Test.YtamcbdflmephdaaFiS
import Derived.KernelRfl
set_option linter.unusedVariables false
set_option linter.unusedSimpArgs false
namespace Go.Proofs.Ytamcbdflmephdaa.E
open Go
set_option maxHeartbeats 4000000
set_option maxRecDepth 100000
set_option linter.unusedSimpArgs false
set_option linter.unusedVariables false
attribute [local congr] c_wp c_ops c_op c_opS c_run c_runS c_dt c_seq c_blk c_loop c_S c_put c_bind c_mv c_pick c_nt c_ng c_bin c_binI c_binS c_beq c_B c_eqa c_hd c_cells c_blkK c_box c_vec c_mp c_nck c_mks c_appn c_mkm c_mput c_mlk c_mrm c_take c_ld c_ldF c_cellsK c_st c_fld c_fldv c_ix c_ixp c_ixv c_ixs c_sub c_subs c_len c_lens c_src c_dst c_ow c_app c_ext c_mm c_conv c_str c_isn c_fill c_rows c_boxo c_frz c_frzO c_frzA c_frzV c_spec c_specO c_opsP c_opP c_runP c_specP c_Z c_qretP c_fz c_fn c_gv c_cond c_res1 c_resL c_ret c_qret c_ite c_unr c_nx c_bk c_cut c_is
attribute [local irreducible] dwp

theorem senB_pre {pre : List Ev} {k : List UInt8} (h : senB pre k = true) (r : List Ev) : senB (pre ++ r) k = true := by
  unfold senB at *
  rw [List.any_append, h]
  rfl
theorem senB_snoc (pre : List Ev) (x : Ev) (k : List UInt8) : senB (pre ++ [x]) k = (senB pre k || decide (x.sender = k)) := by
  unfold senB
  rw [List.any_append]
  simp
def ac20 : AC := (.seq (.ops [⟨(some 3), none, (.box (.t 0))⟩, ⟨(some 6), none, (.mv (.c .e0))⟩]) (.seq (.ops [⟨(some 11), none, (.buildSl 41 29 0 [(.int .i64 0), (.str []), (.str []), (.int .i64 0), (.bool false), (.str []), (.int .i64 0), (.int .i64 0), .e0, .e0, (.str []), (.int .i64 0), (.int .i64 0), (.bool false), (.str []), .e0, .e0, .e0, .e0, (.int .i64 0), (.int .i64 0), (.int .i64 0), (.int .i64 0), (.int .i64 0), (.int .i64 0), (.int .i64 0), (.int .i64 0), (.str []), (.int .i64 0)] [])⟩, ⟨(some 7), none, (.mv (.t 11))⟩]) (.seq (.seq (.ops [⟨(some 8), none, (.mv (.c (.int .i64 0)))⟩]) (.block 0 (.loop (.seq (.seq (.ops [⟨(some 12), none, (.mv (.t 8))⟩, ⟨(some 13), none, (.mv (.t 1))⟩, ⟨(some 14), none, (.len (.t 13))⟩, ⟨(some 15), none, (.bin .lss (.t 12) (.t 14))⟩]) (.cond (.t 15) .skip (.exit 0))) (.seq (.block 1 (.seq (.ops [⟨(some 18), none, (.fld 4 (.t 3))⟩, ⟨(some 19), none, (.ld false 1 (.t 18))⟩, ⟨(some 20), none, (.nt (.t 19))⟩, ⟨(some 21), none, (.mv (.t 20))⟩, ⟨(some 22), (some (21, false)), (.mv (.t 1))⟩, ⟨(some 23), (some (21, false)), (.mv (.t 8))⟩, ⟨(some 24), (some (21, false)), (.ix 29 (.t 22) (.t 23))⟩, ⟨(some 25), (some (21, false)), (.fld 3 (.t 24))⟩, ⟨(some 26), (some (21, false)), (.ld false 1 (.t 25))⟩, ⟨(some 27), (some (21, false)), (.bin .neq (.t 26) (.c (.int .i64 2)))⟩, ⟨(some 28), none, (.pick (.t 21) (.c (.bool true)) (.t 27))⟩, ⟨(some 9), none, (.mv (.t 28))⟩]) (.seq (.seq (.ops [⟨(some 10), none, (.mv (.c (.int .i64 0)))⟩]) (.block 2 (.loop (.seq (.seq (.ops [⟨(some 29), none, (.mv (.t 10))⟩, ⟨(some 30), none, (.mv (.t 2))⟩, ⟨(some 31), none, (.len (.t 30))⟩, ⟨(some 32), none, (.bin .lss (.t 29) (.t 31))⟩, ⟨(some 33), none, (.mv (.t 32))⟩, ⟨(some 34), (some (33, true)), (.mv (.t 9))⟩, ⟨(some 35), (some (33, true)), (.nt (.t 34))⟩, ⟨(some 36), none, (.pick (.t 33) (.t 35) (.c (.bool false)))⟩]) (.cond (.t 36) .skip (.exit 2))) (.seq (.block 3 (.draw (.q false ⟨(some 39), none, (.mv (.t 2))⟩ (.q false ⟨(some 40), none, (.mv (.t 10))⟩ (.q false ⟨(some 41), none, (.ix 29 (.t 39) (.t 40))⟩ (.q false ⟨(some 42), none, (.fld 2 (.t 41))⟩ (.q false ⟨(some 43), none, (.ld false 1 (.t 42))⟩ (.q false ⟨(some 44), none, (.mv (.t 1))⟩ (.q false ⟨(some 45), none, (.mv (.t 8))⟩ (.q false ⟨(some 46), none, (.ix 29 (.t 44) (.t 45))⟩ (.q false ⟨(some 47), none, (.fld 5 (.t 46))⟩ (.q false ⟨(some 48), none, (.ld false 1 (.t 47))⟩ (.q false ⟨(some 49), none, (.bin .eql (.t 43) (.t 48))⟩ (.q false ⟨(some 9), none, (.mv (.t 49))⟩ .nil)))))))))))))) (.ops [⟨(some 37), none, (.mv (.t 10))⟩, ⟨(some 38), none, (.bin .add (.t 37) (.c (.int .i64 1)))⟩, ⟨(some 10), none, (.mv (.t 38))⟩])))))) (.seq (.ops [⟨(some 50), none, (.mv (.t 9))⟩]) (.cond (.t 50) (.ops [⟨(some 51), none, (.mv (.t 7))⟩, ⟨(some 52), none, (.mv (.t 1))⟩, ⟨(some 53), none, (.mv (.t 8))⟩, ⟨(some 54), none, (.ix 29 (.t 52) (.t 53))⟩, ⟨(some 55), none, (.ld true 29 (.t 54))⟩, ⟨(some 56), none, (.buildSl 41 29 1 [(.int .i64 0), (.str []), (.str []), (.int .i64 0), (.bool false), (.str []), (.int .i64 0), (.int .i64 0), .e0, .e0, (.str []), (.int .i64 0), (.int .i64 0), (.bool false), (.str []), .e0, .e0, .e0, .e0, (.int .i64 0), (.int .i64 0), (.int .i64 0), (.int .i64 0), (.int .i64 0), (.int .i64 0), (.int .i64 0), (.int .i64 0), (.str []), (.int .i64 0)] [(0, (.t 55))])⟩, ⟨(some 57), none, (.app 41 29 376 (.t 51) (.t 56))⟩, ⟨(some 7), none, (.mv (.t 57))⟩]) .skip))))) (.ops [⟨(some 16), none, (.mv (.t 8))⟩, ⟨(some 17), none, (.bin .add (.t 16) (.c (.int .i64 1)))⟩, ⟨(some 8), none, (.mv (.t 17))⟩])))))) (.seq (.ops [⟨(some 58), none, (.mv (.t 7))⟩, ⟨(some 6), none, (.mv (.t 58))⟩]) .ret))))
theorem tr20 : Try.f20.body.bind (trCode Try.prog) = some (strip ac20) := by kernel_rfl
theorem spec20 (f : Flt) (st sh : List Ev) (hb : st.length ≤ 1000) : Spec Try.prog 20 [.fz (.agg (encFl f)), .fz (.sl 29 (st.map encEv)), .fz (.sl 29 (sh.map encEv))] (.fz (.sl 29 ((lazyL f st sh).map encEv))) := by
  refine spec_at (n := 56) (ars := [(.t 6)]) (ac := ac20) Try.func20 (by kernel_rfl) (by kernel_rfl) tr20 (by kernel_rfl) ?_
  unfold ac20
  iterate 8 (all_goals (try (first
    | (with_reducible refine ite_in (fun _ => ?_) (fun _ => ?_))
    | (with_reducible refine ⟨fun _ => ?_, fun _ => ?_⟩)
    | (with_reducible refine And.intro ?_ ?_)
    | (with_reducible intro _)
    | (with_reducible exact is_in _)
    | (simp -implicitDefEqProofs only [SD, SF, SL, e_nf, reduceCtorEq, implies_true, ↓reduceIte, Nat.reduceEqDiff, Nat.reduceAdd, Nat.reduceMul, Nat.reduceSub, Nat.reduceLeDiff, Nat.reduceLT, Int.reduceLT, Int.reduceLE, Int.reduceEq, Int.reduceToNat, Int.reduceAdd, Int.reduceSub, Int.reduceNeg, Int.reduceBEq, Int.reduceBNe, Nat.reduceBEq, Int.cast_ofNat_Int, decide_true, decide_false, ne_eq, eq_self_iff_true, beq_eq_false_iff_ne, bne_iff_ne, List.replicate, encFl, *]))))
  refine loop_r (X := List Ev × List Ev × (DV × List (Nat × Blk))) (fun n x => st = x.1 ++ x.2.1 ∧ n = x.2.1.length ∧ ((lazyL f x.1 sh = [] ∧ x.2.2 = (DV.ow 11, [(11, Blk.vec 41 29 ([]))])) ∨ x.2.2 = (DV.ow 57, [(57, Blk.vec 41 29 ((lazyL f x.1 sh).map encEv))]))) (fun x => [(8, .int .i64 x.1.length), (7, x.2.2.1)]) (fun x => x.2.2.2) [9, 10, 12, 13, 14, 15, 16, 17, 18, 19, 20, 21, 22, 23, 24, 25, 26, 27, 28, 29, 30, 31, 32, 33, 34, 35, 36, 37, 38, 39, 40, 41, 42, 43, 44, 45, 46, 47, 48, 49, 50, 51, 52, 53, 54, 55, 56, 57] [11, 56, 57] [56] (st).length ([], st, (DV.ow 11, [(11, Blk.vec 41 29 ([]))])) ⟨rfl, rfl, by exact .inl ⟨rfl, rfl⟩⟩ ?_ ?_
  · simp -implicitDefEqProofs only [SD, SF, SL, e_nf, reduceCtorEq, implies_true, ↓reduceIte, Nat.reduceEqDiff, Nat.reduceAdd, Nat.reduceMul, Nat.reduceSub, Nat.reduceLeDiff, Nat.reduceLT, Int.reduceLT, Int.reduceLE, Int.reduceEq, Int.reduceToNat, Int.reduceAdd, Int.reduceSub, Int.reduceNeg, Int.reduceBEq, Int.reduceBNe, Nat.reduceBEq, Int.cast_ofNat_Int, decide_true, decide_false, ne_eq, eq_self_iff_true, beq_eq_false_iff_ne, bne_iff_ne, List.replicate, encEv, encFl] <;> simp
  · rintro n ⟨pre1, rest1, a1⟩ ⟨he1, rfl, hI1⟩
    dsimp only at he1 hI1
    cases rest1 with
    | nil =>
      obtain rfl : st = pre1 := by simpa using he1
      clear he1
      have hlt1 : ¬ (((st).length : Int) < ((st).length : Int)) := Int.lt_irrefl _
      rcases hI1 with ⟨hl0, rfl⟩ | rfl
      all_goals try replace hl0 := Hd.mk hl0
      iterate 1 (all_goals (try (first
        | (with_reducible refine ite_in (fun _ => ?_) (fun _ => ?_))
        | (with_reducible refine ⟨fun _ => ?_, fun _ => ?_⟩)
        | (with_reducible refine And.intro ?_ ?_)
        | (with_reducible intro _)
        | (with_reducible exact is_in _)
        | (simp -implicitDefEqProofs only [SD, SF, SL, e_nf, reduceCtorEq, implies_true, ↓reduceIte, Nat.reduceEqDiff, Nat.reduceAdd, Nat.reduceMul, Nat.reduceSub, Nat.reduceLeDiff, Nat.reduceLT, Int.reduceLT, Int.reduceLE, Int.reduceEq, Int.reduceToNat, Int.reduceAdd, Int.reduceSub, Int.reduceNeg, Int.reduceBEq, Int.reduceBNe, Nat.reduceBEq, Int.cast_ofNat_Int, decide_true, decide_false, ne_eq, eq_self_iff_true, beq_eq_false_iff_ne, bne_iff_ne, List.replicate, encEv, encFl, *]))))
      all_goals (first | (rw [hl0.out]; first | exact .inl rfl | rfl | simp) | (simp_all; done))

    | cons x1 rest1 =>
      have hlt1 := cut_lt he1
      have hx1 := cutD encEv he1
      simp only [encEv] at hx1
      simp -implicitDefEqProofs only [SD, SF, SL, e_nf, reduceCtorEq, implies_true, ↓reduceIte, Nat.reduceEqDiff, Nat.reduceAdd, Nat.reduceMul, Nat.reduceSub, Nat.reduceLeDiff, Nat.reduceLT, Int.reduceLT, Int.reduceLE, Int.reduceEq, Int.reduceToNat, Int.reduceAdd, Int.reduceSub, Int.reduceNeg, Int.reduceBEq, Int.reduceBNe, Nat.reduceBEq, Int.cast_ofNat_Int, decide_true, decide_false, ne_eq, eq_self_iff_true, beq_eq_false_iff_ne, bne_iff_ne, List.replicate, encEv, encFl, hlt1]
      intro hl
      have hw1 := wrap_len (n := pre1.length) (m := (st).length) (cut_lt' he1) (by simp only [maxLen]; omega)
      replace he1 := Hd.mk he1
      have hz1 := cut_lt' he1.out
      have hlo := lazy_len f pre1 sh
      have hz2 : (lazyL f pre1 sh).length + 1 ≤ maxLen := by simp only [maxLen]; omega
      have hz3 : ((lazyL f pre1 sh).length + 1) * 376 ≤ 140737488355328 := by omega
      have hsn := lazy_snoc f pre1 x1 sh
      have hyn : Hd (needB f sh x1 = true) ∨ Hd (¬ needB f sh x1 = true) := by
        by_cases h : needB f sh x1 = true
        · exact .inl (Hd.mk h)
        · exact .inr (Hd.mk h)
      by_cases h1 : f.lzy = true
      all_goals by_cases h2 : x1.kind = 2
      all_goals rcases hI1 with ⟨hp0, rfl⟩ | rfl
      iterate 1 (all_goals (try (first
        | (have := False; (with_reducible refine back_in rest1.length [9, 10, 12, 13, 14, 15, 16, 17, 18, 19, 20, 21, 22, 23, 24, 25, 26, 27, 28, 29, 30, 31, 32, 33, 34, 35, 36, 37, 38, 39, 40, 41, 42, 43, 44, 45, 46, 47, 48, 49, 50, 51, 52, 53, 54, 55, 56, 57] [56] (pre1 ++ [x1], rest1, 0) ?_ ⟨?_, ?_, ?_⟩ ?_)
           · simp
           · exact cut_snoc he1.out
           · rfl
           · skip
           · first | (simp -implicitDefEqProofs only [SD, SF, SL, e_nf, reduceCtorEq, implies_true, ↓reduceIte, Nat.reduceEqDiff, Nat.reduceAdd, Nat.reduceMul, Nat.reduceSub, Nat.reduceLeDiff, Nat.reduceLT, Int.reduceLT, Int.reduceLE, Int.reduceEq, Int.reduceToNat, Int.reduceAdd, Int.reduceSub, Int.reduceNeg, Int.reduceBEq, Int.reduceBNe, Nat.reduceBEq, Int.cast_ofNat_Int, decide_true, decide_false, ne_eq, eq_self_iff_true, beq_eq_false_iff_ne, bne_iff_ne, List.replicate, encEv, encFl] <;> simp <;> done) | (simp -implicitDefEqProofs only [SD, SF, SL, e_nf, reduceCtorEq, implies_true, ↓reduceIte, Nat.reduceEqDiff, Nat.reduceAdd, Nat.reduceMul, Nat.reduceSub, Nat.reduceLeDiff, Nat.reduceLT, Int.reduceLT, Int.reduceLE, Int.reduceEq, Int.reduceToNat, Int.reduceAdd, Int.reduceSub, Int.reduceNeg, Int.reduceBEq, Int.reduceBNe, Nat.reduceBEq, Int.cast_ofNat_Int, decide_true, decide_false, ne_eq, eq_self_iff_true, beq_eq_false_iff_ne, bne_iff_ne, List.replicate, encEv, encFl, *] <;> simp_all <;> done))
        | (with_reducible refine ite_in (fun _ => ?_) (fun _ => ?_))
        | (with_reducible refine ⟨fun _ => ?_, fun _ => ?_⟩)
        | (with_reducible refine And.intro ?_ ?_)
        | (with_reducible intro _)
        | (with_reducible exact is_in _)
        | (simp -implicitDefEqProofs only [SD, SF, SL, e_nf, reduceCtorEq, implies_true, ↓reduceIte, Nat.reduceEqDiff, Nat.reduceAdd, Nat.reduceMul, Nat.reduceSub, Nat.reduceLeDiff, Nat.reduceLT, Int.reduceLT, Int.reduceLE, Int.reduceEq, Int.reduceToNat, Int.reduceAdd, Int.reduceSub, Int.reduceNeg, Int.reduceBEq, Int.reduceBNe, Nat.reduceBEq, Int.cast_ofNat_Int, decide_true, decide_false, ne_eq, eq_self_iff_true, beq_eq_false_iff_ne, bne_iff_ne, List.replicate, encEv, encFl, *]))))
      · replace hp0 := Hd.mk hp0
        have hneed : Hd (needB f sh x1 = (false || senB sh x1.key)) := Hd.mk (by simp [needB, h1, h2])
        iterate 10 (all_goals (try (first
          | (with_reducible refine ite_in (fun _ => ?_) (fun _ => ?_))
          | (with_reducible refine ⟨fun _ => ?_, fun _ => ?_⟩)
          | (with_reducible refine And.intro ?_ ?_)
          | (with_reducible intro _)
          | (with_reducible exact is_in _)
          | (simp -implicitDefEqProofs only [SD, SF, SL, e_nf, reduceCtorEq, implies_true, ↓reduceIte, Nat.reduceEqDiff, Nat.reduceAdd, Nat.reduceMul, Nat.reduceSub, Nat.reduceLeDiff, Nat.reduceLT, Int.reduceLT, Int.reduceLE, Int.reduceEq, Int.reduceToNat, Int.reduceAdd, Int.reduceSub, Int.reduceNeg, Int.reduceBEq, Int.reduceBNe, Nat.reduceBEq, Int.cast_ofNat_Int, decide_true, decide_false, ne_eq, eq_self_iff_true, beq_eq_false_iff_ne, bne_iff_ne, List.replicate, encEv, encFl, *]))))
        refine loop_q (X := List Ev × List Ev × Bool) (fun n x => sh = x.1 ++ x.2.1 ∧ n = x.2.1.length ∧ (x.2.2 = (false || senB x.1 x1.key))) (fun x => [(10, .int .i64 x.1.length), (9, .bool x.2.2)]) (fun _ => []) [29, 30, 31, 32, 33, 34, 35, 36, 37, 38, 39, 40, 41, 42, 43, 44, 45, 46, 47, 48, 49] []  (sh).length ([], sh, false) ⟨rfl, rfl, by rfl⟩ ?_ ?_
        · simp -implicitDefEqProofs only [SD, SF, SL, e_nf, reduceCtorEq, implies_true, ↓reduceIte, Nat.reduceEqDiff, Nat.reduceAdd, Nat.reduceMul, Nat.reduceSub, Nat.reduceLeDiff, Nat.reduceLT, Int.reduceLT, Int.reduceLE, Int.reduceEq, Int.reduceToNat, Int.reduceAdd, Int.reduceSub, Int.reduceNeg, Int.reduceBEq, Int.reduceBNe, Nat.reduceBEq, Int.cast_ofNat_Int, decide_true, decide_false, ne_eq, eq_self_iff_true, beq_eq_false_iff_ne, bne_iff_ne, List.replicate, encEv, encFl] <;> simp
        · rintro n ⟨pre2, rest2, a2⟩ ⟨he2, rfl, hI2⟩
          dsimp only at he2 hI2
          cases rest2 with
          | nil =>
            obtain rfl : sh = pre2 := by simpa using he2
            clear he2
            have hlt2 : ¬ (((sh).length : Int) < ((sh).length : Int)) := Int.lt_irrefl _
            have hq : needB f sh x1 = a2 := by rw [hneed.out]; exact hI2.symm
            clear hI2
            cases a2
            all_goals rcases hyn with hY | hN
            all_goals try (exfalso; first | exact hN.out hq | exact Bool.noConfusion (hq.symm.trans hY.out))
            all_goals clear hq
            iterate 60 (all_goals (try (first
              | (have := hp0; have := hN; (with_reducible refine back_in rest1.length [9, 10, 12, 13, 14, 15, 16, 17, 18, 19, 20, 21, 22, 23, 24, 25, 26, 27, 28, 29, 30, 31, 32, 33, 34, 35, 36, 37, 38, 39, 40, 41, 42, 43, 44, 45, 46, 47, 48, 49, 50, 51, 52, 53, 54, 55, 56, 57] [56] (pre1 ++ [x1], rest1, (DV.ow 11, [(11, Blk.vec 41 29 ([]))])) ?_ ⟨?_, ?_, ?_⟩ ?_)
                 · simp
                 · exact cut_snoc he1.out
                 · rfl
                 · first | (left; refine ⟨?_, rfl⟩; rw [hsn, if_neg hN.out]; exact hp0.out) | (right; rw [hsn, if_neg hN.out]) | (right; rw [hsn, if_pos hY.out, hp0.out]; rfl) | (right; rw [hsn, if_pos hY.out, List.map_append]; rfl)
                 · first | (simp -implicitDefEqProofs only [SD, SF, SL, e_nf, reduceCtorEq, implies_true, ↓reduceIte, Nat.reduceEqDiff, Nat.reduceAdd, Nat.reduceMul, Nat.reduceSub, Nat.reduceLeDiff, Nat.reduceLT, Int.reduceLT, Int.reduceLE, Int.reduceEq, Int.reduceToNat, Int.reduceAdd, Int.reduceSub, Int.reduceNeg, Int.reduceBEq, Int.reduceBNe, Nat.reduceBEq, Int.cast_ofNat_Int, decide_true, decide_false, ne_eq, eq_self_iff_true, beq_eq_false_iff_ne, bne_iff_ne, List.replicate, encEv, encFl] <;> simp <;> done) | (simp -implicitDefEqProofs only [SD, SF, SL, e_nf, reduceCtorEq, implies_true, ↓reduceIte, Nat.reduceEqDiff, Nat.reduceAdd, Nat.reduceMul, Nat.reduceSub, Nat.reduceLeDiff, Nat.reduceLT, Int.reduceLT, Int.reduceLE, Int.reduceEq, Int.reduceToNat, Int.reduceAdd, Int.reduceSub, Int.reduceNeg, Int.reduceBEq, Int.reduceBNe, Nat.reduceBEq, Int.cast_ofNat_Int, decide_true, decide_false, ne_eq, eq_self_iff_true, beq_eq_false_iff_ne, bne_iff_ne, List.replicate, encEv, encFl, *] <;> simp_all <;> done))
              | (have := hv1; have := hN; (with_reducible refine back_in rest1.length [9, 10, 12, 13, 14, 15, 16, 17, 18, 19, 20, 21, 22, 23, 24, 25, 26, 27, 28, 29, 30, 31, 32, 33, 34, 35, 36, 37, 38, 39, 40, 41, 42, 43, 44, 45, 46, 47, 48, 49, 50, 51, 52, 53, 54, 55, 56, 57] [56] (pre1 ++ [x1], rest1, (DV.ow 57, [(57, Blk.vec 41 29 ((lazyL f pre1 sh).map encEv))])) ?_ ⟨?_, ?_, ?_⟩ ?_)
                 · simp
                 · exact cut_snoc he1.out
                 · rfl
                 · first | (left; refine ⟨?_, rfl⟩; rw [hsn, if_neg hN.out]; exact hp0.out) | (right; rw [hsn, if_neg hN.out]) | (right; rw [hsn, if_pos hY.out, hp0.out]; rfl) | (right; rw [hsn, if_pos hY.out, List.map_append]; rfl)
                 · first | (simp -implicitDefEqProofs only [SD, SF, SL, e_nf, reduceCtorEq, implies_true, ↓reduceIte, Nat.reduceEqDiff, Nat.reduceAdd, Nat.reduceMul, Nat.reduceSub, Nat.reduceLeDiff, Nat.reduceLT, Int.reduceLT, Int.reduceLE, Int.reduceEq, Int.reduceToNat, Int.reduceAdd, Int.reduceSub, Int.reduceNeg, Int.reduceBEq, Int.reduceBNe, Nat.reduceBEq, Int.cast_ofNat_Int, decide_true, decide_false, ne_eq, eq_self_iff_true, beq_eq_false_iff_ne, bne_iff_ne, List.replicate, encEv, encFl] <;> simp <;> done) | (simp -implicitDefEqProofs only [SD, SF, SL, e_nf, reduceCtorEq, implies_true, ↓reduceIte, Nat.reduceEqDiff, Nat.reduceAdd, Nat.reduceMul, Nat.reduceSub, Nat.reduceLeDiff, Nat.reduceLT, Int.reduceLT, Int.reduceLE, Int.reduceEq, Int.reduceToNat, Int.reduceAdd, Int.reduceSub, Int.reduceNeg, Int.reduceBEq, Int.reduceBNe, Nat.reduceBEq, Int.cast_ofNat_Int, decide_true, decide_false, ne_eq, eq_self_iff_true, beq_eq_false_iff_ne, bne_iff_ne, List.replicate, encEv, encFl, *] <;> simp_all <;> done))
              | (have := hv1; have := hY; (with_reducible refine back_in rest1.length [9, 10, 12, 13, 14, 15, 16, 17, 18, 19, 20, 21, 22, 23, 24, 25, 26, 27, 28, 29, 30, 31, 32, 33, 34, 35, 36, 37, 38, 39, 40, 41, 42, 43, 44, 45, 46, 47, 48, 49, 50, 51, 52, 53, 54, 55, 56, 57] [56] (pre1 ++ [x1], rest1, (DV.ow 57, [(57, Blk.vec 41 29 ((lazyL f pre1 sh).map encEv ++ [encEv x1]))])) ?_ ⟨?_, ?_, ?_⟩ ?_)
                 · simp
                 · exact cut_snoc he1.out
                 · rfl
                 · first | (left; refine ⟨?_, rfl⟩; rw [hsn, if_neg hN.out]; exact hp0.out) | (right; rw [hsn, if_neg hN.out]) | (right; rw [hsn, if_pos hY.out, hp0.out]; rfl) | (right; rw [hsn, if_pos hY.out, List.map_append]; rfl)
                 · first | (simp -implicitDefEqProofs only [SD, SF, SL, e_nf, reduceCtorEq, implies_true, ↓reduceIte, Nat.reduceEqDiff, Nat.reduceAdd, Nat.reduceMul, Nat.reduceSub, Nat.reduceLeDiff, Nat.reduceLT, Int.reduceLT, Int.reduceLE, Int.reduceEq, Int.reduceToNat, Int.reduceAdd, Int.reduceSub, Int.reduceNeg, Int.reduceBEq, Int.reduceBNe, Nat.reduceBEq, Int.cast_ofNat_Int, decide_true, decide_false, ne_eq, eq_self_iff_true, beq_eq_false_iff_ne, bne_iff_ne, List.replicate, encEv, encFl] <;> simp <;> done) | (simp -implicitDefEqProofs only [SD, SF, SL, e_nf, reduceCtorEq, implies_true, ↓reduceIte, Nat.reduceEqDiff, Nat.reduceAdd, Nat.reduceMul, Nat.reduceSub, Nat.reduceLeDiff, Nat.reduceLT, Int.reduceLT, Int.reduceLE, Int.reduceEq, Int.reduceToNat, Int.reduceAdd, Int.reduceSub, Int.reduceNeg, Int.reduceBEq, Int.reduceBNe, Nat.reduceBEq, Int.cast_ofNat_Int, decide_true, decide_false, ne_eq, eq_self_iff_true, beq_eq_false_iff_ne, bne_iff_ne, List.replicate, encEv, encFl, *] <;> simp_all <;> done))
              | (have := hp0; have := hY; (with_reducible refine back_in rest1.length [9, 10, 12, 13, 14, 15, 16, 17, 18, 19, 20, 21, 22, 23, 24, 25, 26, 27, 28, 29, 30, 31, 32, 33, 34, 35, 36, 37, 38, 39, 40, 41, 42, 43, 44, 45, 46, 47, 48, 49, 50, 51, 52, 53, 54, 55, 56, 57] [56] (pre1 ++ [x1], rest1, (DV.ow 57, [(57, Blk.vec 41 29 ([encEv x1]))])) ?_ ⟨?_, ?_, ?_⟩ ?_)
                 · simp
                 · exact cut_snoc he1.out
                 · rfl
                 · first | (left; refine ⟨?_, rfl⟩; rw [hsn, if_neg hN.out]; exact hp0.out) | (right; rw [hsn, if_neg hN.out]) | (right; rw [hsn, if_pos hY.out, hp0.out]; rfl) | (right; rw [hsn, if_pos hY.out, List.map_append]; rfl)
                 · first | (simp -implicitDefEqProofs only [SD, SF, SL, e_nf, reduceCtorEq, implies_true, ↓reduceIte, Nat.reduceEqDiff, Nat.reduceAdd, Nat.reduceMul, Nat.reduceSub, Nat.reduceLeDiff, Nat.reduceLT, Int.reduceLT, Int.reduceLE, Int.reduceEq, Int.reduceToNat, Int.reduceAdd, Int.reduceSub, Int.reduceNeg, Int.reduceBEq, Int.reduceBNe, Nat.reduceBEq, Int.cast_ofNat_Int, decide_true, decide_false, ne_eq, eq_self_iff_true, beq_eq_false_iff_ne, bne_iff_ne, List.replicate, encEv, encFl] <;> simp <;> done) | (simp -implicitDefEqProofs only [SD, SF, SL, e_nf, reduceCtorEq, implies_true, ↓reduceIte, Nat.reduceEqDiff, Nat.reduceAdd, Nat.reduceMul, Nat.reduceSub, Nat.reduceLeDiff, Nat.reduceLT, Int.reduceLT, Int.reduceLE, Int.reduceEq, Int.reduceToNat, Int.reduceAdd, Int.reduceSub, Int.reduceNeg, Int.reduceBEq, Int.reduceBNe, Nat.reduceBEq, Int.cast_ofNat_Int, decide_true, decide_false, ne_eq, eq_self_iff_true, beq_eq_false_iff_ne, bne_iff_ne, List.replicate, encEv, encFl, *] <;> simp_all <;> done))
              | (with_reducible refine ite_in (fun _ => ?_) (fun _ => ?_))
              | (with_reducible refine ⟨fun _ => ?_, fun _ => ?_⟩)
              | (with_reducible refine And.intro ?_ ?_)
              | (with_reducible intro _)
              | (with_reducible exact is_in _)
              | (simp -implicitDefEqProofs only [SD, SF, SL, e_nf, reduceCtorEq, implies_true, ↓reduceIte, Nat.reduceEqDiff, Nat.reduceAdd, Nat.reduceMul, Nat.reduceSub, Nat.reduceLeDiff, Nat.reduceLT, Int.reduceLT, Int.reduceLE, Int.reduceEq, Int.reduceToNat, Int.reduceAdd, Int.reduceSub, Int.reduceNeg, Int.reduceBEq, Int.reduceBNe, Nat.reduceBEq, Int.cast_ofNat_Int, decide_true, decide_false, ne_eq, eq_self_iff_true, beq_eq_false_iff_ne, bne_iff_ne, List.replicate, encEv, encFl, *]))))
            all_goals (first | omega | (simp only [maxLen, List.length_append, List.length_map, List.length_cons, List.length_nil] <;> omega) | (simp_all; done))

          | cons x2 rest2 =>
            have hlt2 := cut_lt he2
            have hx2 := cutD encEv he2
            simp only [encEv] at hx2
            simp -implicitDefEqProofs only [SD, SF, SL, e_nf, reduceCtorEq, implies_true, ↓reduceIte, Nat.reduceEqDiff, Nat.reduceAdd, Nat.reduceMul, Nat.reduceSub, Nat.reduceLeDiff, Nat.reduceLT, Int.reduceLT, Int.reduceLE, Int.reduceEq, Int.reduceToNat, Int.reduceAdd, Int.reduceSub, Int.reduceNeg, Int.reduceBEq, Int.reduceBNe, Nat.reduceBEq, Int.cast_ofNat_Int, decide_true, decide_false, ne_eq, eq_self_iff_true, beq_eq_false_iff_ne, bne_iff_ne, List.replicate, encEv, encFl, hlt2]
            intro hl
            have hw2 := wrap_len (n := pre2.length) (m := (sh).length) (cut_lt' he2) (by simpa using hl)
            replace he2 := Hd.mk he2
            have hq : a2 = true → needB f sh x1 = true := by
              intro h
              rw [hneed.out, he2.out]
              rw [h] at hI2
              first | rfl | (simp at hI2; simp [senB_pre hI2])
            replace hI2 := Hd.mk hI2
            cases a2
            all_goals try (exfalso; have hz := hI2.out; simp at hz; done)
            all_goals rcases hyn with hY | hN
            all_goals try (exfalso; exact hN.out (hq rfl))
            all_goals clear hq
            iterate 60 (all_goals (try (first
              | (have := hp0; have := hN; (with_reducible refine back_in rest1.length [9, 10, 12, 13, 14, 15, 16, 17, 18, 19, 20, 21, 22, 23, 24, 25, 26, 27, 28, 29, 30, 31, 32, 33, 34, 35, 36, 37, 38, 39, 40, 41, 42, 43, 44, 45, 46, 47, 48, 49, 50, 51, 52, 53, 54, 55, 56, 57] [56] (pre1 ++ [x1], rest1, (DV.ow 11, [(11, Blk.vec 41 29 ([]))])) ?_ ⟨?_, ?_, ?_⟩ ?_)
                 · simp
                 · exact cut_snoc he1.out
                 · rfl
                 · first | (left; refine ⟨?_, rfl⟩; rw [hsn, if_neg hN.out]; exact hp0.out) | (right; rw [hsn, if_neg hN.out]) | (right; rw [hsn, if_pos hY.out, hp0.out]; rfl) | (right; rw [hsn, if_pos hY.out, List.map_append]; rfl)
                 · first | (simp -implicitDefEqProofs only [SD, SF, SL, e_nf, reduceCtorEq, implies_true, ↓reduceIte, Nat.reduceEqDiff, Nat.reduceAdd, Nat.reduceMul, Nat.reduceSub, Nat.reduceLeDiff, Nat.reduceLT, Int.reduceLT, Int.reduceLE, Int.reduceEq, Int.reduceToNat, Int.reduceAdd, Int.reduceSub, Int.reduceNeg, Int.reduceBEq, Int.reduceBNe, Nat.reduceBEq, Int.cast_ofNat_Int, decide_true, decide_false, ne_eq, eq_self_iff_true, beq_eq_false_iff_ne, bne_iff_ne, List.replicate, encEv, encFl] <;> simp <;> done) | (simp -implicitDefEqProofs only [SD, SF, SL, e_nf, reduceCtorEq, implies_true, ↓reduceIte, Nat.reduceEqDiff, Nat.reduceAdd, Nat.reduceMul, Nat.reduceSub, Nat.reduceLeDiff, Nat.reduceLT, Int.reduceLT, Int.reduceLE, Int.reduceEq, Int.reduceToNat, Int.reduceAdd, Int.reduceSub, Int.reduceNeg, Int.reduceBEq, Int.reduceBNe, Nat.reduceBEq, Int.cast_ofNat_Int, decide_true, decide_false, ne_eq, eq_self_iff_true, beq_eq_false_iff_ne, bne_iff_ne, List.replicate, encEv, encFl, *] <;> simp_all <;> done))
              | (have := hv1; have := hN; (with_reducible refine back_in rest1.length [9, 10, 12, 13, 14, 15, 16, 17, 18, 19, 20, 21, 22, 23, 24, 25, 26, 27, 28, 29, 30, 31, 32, 33, 34, 35, 36, 37, 38, 39, 40, 41, 42, 43, 44, 45, 46, 47, 48, 49, 50, 51, 52, 53, 54, 55, 56, 57] [56] (pre1 ++ [x1], rest1, (DV.ow 57, [(57, Blk.vec 41 29 ((lazyL f pre1 sh).map encEv))])) ?_ ⟨?_, ?_, ?_⟩ ?_)
                 · simp
                 · exact cut_snoc he1.out
                 · rfl
                 · first | (left; refine ⟨?_, rfl⟩; rw [hsn, if_neg hN.out]; exact hp0.out) | (right; rw [hsn, if_neg hN.out]) | (right; rw [hsn, if_pos hY.out, hp0.out]; rfl) | (right; rw [hsn, if_pos hY.out, List.map_append]; rfl)
                 · first | (simp -implicitDefEqProofs only [SD, SF, SL, e_nf, reduceCtorEq, implies_true, ↓reduceIte, Nat.reduceEqDiff, Nat.reduceAdd, Nat.reduceMul, Nat.reduceSub, Nat.reduceLeDiff, Nat.reduceLT, Int.reduceLT, Int.reduceLE, Int.reduceEq, Int.reduceToNat, Int.reduceAdd, Int.reduceSub, Int.reduceNeg, Int.reduceBEq, Int.reduceBNe, Nat.reduceBEq, Int.cast_ofNat_Int, decide_true, decide_false, ne_eq, eq_self_iff_true, beq_eq_false_iff_ne, bne_iff_ne, List.replicate, encEv, encFl] <;> simp <;> done) | (simp -implicitDefEqProofs only [SD, SF, SL, e_nf, reduceCtorEq, implies_true, ↓reduceIte, Nat.reduceEqDiff, Nat.reduceAdd, Nat.reduceMul, Nat.reduceSub, Nat.reduceLeDiff, Nat.reduceLT, Int.reduceLT, Int.reduceLE, Int.reduceEq, Int.reduceToNat, Int.reduceAdd, Int.reduceSub, Int.reduceNeg, Int.reduceBEq, Int.reduceBNe, Nat.reduceBEq, Int.cast_ofNat_Int, decide_true, decide_false, ne_eq, eq_self_iff_true, beq_eq_false_iff_ne, bne_iff_ne, List.replicate, encEv, encFl, *] <;> simp_all <;> done))
              | (have := hv1; have := hY; (with_reducible refine back_in rest1.length [9, 10, 12, 13, 14, 15, 16, 17, 18, 19, 20, 21, 22, 23, 24, 25, 26, 27, 28, 29, 30, 31, 32, 33, 34, 35, 36, 37, 38, 39, 40, 41, 42, 43, 44, 45, 46, 47, 48, 49, 50, 51, 52, 53, 54, 55, 56, 57] [56] (pre1 ++ [x1], rest1, (DV.ow 57, [(57, Blk.vec 41 29 ((lazyL f pre1 sh).map encEv ++ [encEv x1]))])) ?_ ⟨?_, ?_, ?_⟩ ?_)
                 · simp
                 · exact cut_snoc he1.out
                 · rfl
                 · first | (left; refine ⟨?_, rfl⟩; rw [hsn, if_neg hN.out]; exact hp0.out) | (right; rw [hsn, if_neg hN.out]) | (right; rw [hsn, if_pos hY.out, hp0.out]; rfl) | (right; rw [hsn, if_pos hY.out, List.map_append]; rfl)
                 · first | (simp -implicitDefEqProofs only [SD, SF, SL, e_nf, reduceCtorEq, implies_true, ↓reduceIte, Nat.reduceEqDiff, Nat.reduceAdd, Nat.reduceMul, Nat.reduceSub, Nat.reduceLeDiff, Nat.reduceLT, Int.reduceLT, Int.reduceLE, Int.reduceEq, Int.reduceToNat, Int.reduceAdd, Int.reduceSub, Int.reduceNeg, Int.reduceBEq, Int.reduceBNe, Nat.reduceBEq, Int.cast_ofNat_Int, decide_true, decide_false, ne_eq, eq_self_iff_true, beq_eq_false_iff_ne, bne_iff_ne, List.replicate, encEv, encFl] <;> simp <;> done) | (simp -implicitDefEqProofs only [SD, SF, SL, e_nf, reduceCtorEq, implies_true, ↓reduceIte, Nat.reduceEqDiff, Nat.reduceAdd, Nat.reduceMul, Nat.reduceSub, Nat.reduceLeDiff, Nat.reduceLT, Int.reduceLT, Int.reduceLE, Int.reduceEq, Int.reduceToNat, Int.reduceAdd, Int.reduceSub, Int.reduceNeg, Int.reduceBEq, Int.reduceBNe, Nat.reduceBEq, Int.cast_ofNat_Int, decide_true, decide_false, ne_eq, eq_self_iff_true, beq_eq_false_iff_ne, bne_iff_ne, List.replicate, encEv, encFl, *] <;> simp_all <;> done))
              | (have := hp0; have := hY; (with_reducible refine back_in rest1.length [9, 10, 12, 13, 14, 15, 16, 17, 18, 19, 20, 21, 22, 23, 24, 25, 26, 27, 28, 29, 30, 31, 32, 33, 34, 35, 36, 37, 38, 39, 40, 41, 42, 43, 44, 45, 46, 47, 48, 49, 50, 51, 52, 53, 54, 55, 56, 57] [56] (pre1 ++ [x1], rest1, (DV.ow 57, [(57, Blk.vec 41 29 ([encEv x1]))])) ?_ ⟨?_, ?_, ?_⟩ ?_)
                 · simp
                 · exact cut_snoc he1.out
                 · rfl
                 · first | (left; refine ⟨?_, rfl⟩; rw [hsn, if_neg hN.out]; exact hp0.out) | (right; rw [hsn, if_neg hN.out]) | (right; rw [hsn, if_pos hY.out, hp0.out]; rfl) | (right; rw [hsn, if_pos hY.out, List.map_append]; rfl)
                 · first | (simp -implicitDefEqProofs only [SD, SF, SL, e_nf, reduceCtorEq, implies_true, ↓reduceIte, Nat.reduceEqDiff, Nat.reduceAdd, Nat.reduceMul, Nat.reduceSub, Nat.reduceLeDiff, Nat.reduceLT, Int.reduceLT, Int.reduceLE, Int.reduceEq, Int.reduceToNat, Int.reduceAdd, Int.reduceSub, Int.reduceNeg, Int.reduceBEq, Int.reduceBNe, Nat.reduceBEq, Int.cast_ofNat_Int, decide_true, decide_false, ne_eq, eq_self_iff_true, beq_eq_false_iff_ne, bne_iff_ne, List.replicate, encEv, encFl] <;> simp <;> done) | (simp -implicitDefEqProofs only [SD, SF, SL, e_nf, reduceCtorEq, implies_true, ↓reduceIte, Nat.reduceEqDiff, Nat.reduceAdd, Nat.reduceMul, Nat.reduceSub, Nat.reduceLeDiff, Nat.reduceLT, Int.reduceLT, Int.reduceLE, Int.reduceEq, Int.reduceToNat, Int.reduceAdd, Int.reduceSub, Int.reduceNeg, Int.reduceBEq, Int.reduceBNe, Nat.reduceBEq, Int.cast_ofNat_Int, decide_true, decide_false, ne_eq, eq_self_iff_true, beq_eq_false_iff_ne, bne_iff_ne, List.replicate, encEv, encFl, *] <;> simp_all <;> done))
              | ((with_reducible refine back_in rest2.length [29, 30, 31, 32, 33, 34, 35, 36, 37, 38, 39, 40, 41, 42, 43, 44, 45, 46, 47, 48, 49] [] (pre2 ++ [x2], rest2, decide (x2.sender = x1.key)) ?_ ⟨?_, ?_, ?_⟩ ?_)
                 · simp
                 · exact cut_snoc he2.out
                 · rfl
                 · first | rfl | (rw [senB_snoc]; have hI2 := hI2.out; simp at hI2; simp [hI2]; done)
                 · first | (simp -implicitDefEqProofs only [SD, SF, SL, e_nf, reduceCtorEq, implies_true, ↓reduceIte, Nat.reduceEqDiff, Nat.reduceAdd, Nat.reduceMul, Nat.reduceSub, Nat.reduceLeDiff, Nat.reduceLT, Int.reduceLT, Int.reduceLE, Int.reduceEq, Int.reduceToNat, Int.reduceAdd, Int.reduceSub, Int.reduceNeg, Int.reduceBEq, Int.reduceBNe, Nat.reduceBEq, Int.cast_ofNat_Int, decide_true, decide_false, ne_eq, eq_self_iff_true, beq_eq_false_iff_ne, bne_iff_ne, List.replicate, encEv, encFl] <;> simp <;> done) | (simp -implicitDefEqProofs only [SD, SF, SL, e_nf, reduceCtorEq, implies_true, ↓reduceIte, Nat.reduceEqDiff, Nat.reduceAdd, Nat.reduceMul, Nat.reduceSub, Nat.reduceLeDiff, Nat.reduceLT, Int.reduceLT, Int.reduceLE, Int.reduceEq, Int.reduceToNat, Int.reduceAdd, Int.reduceSub, Int.reduceNeg, Int.reduceBEq, Int.reduceBNe, Nat.reduceBEq, Int.cast_ofNat_Int, decide_true, decide_false, ne_eq, eq_self_iff_true, beq_eq_false_iff_ne, bne_iff_ne, List.replicate, encEv, encFl, *] <;> simp_all <;> done))
              | (with_reducible refine ite_in (fun _ => ?_) (fun _ => ?_))
              | (with_reducible refine ⟨fun _ => ?_, fun _ => ?_⟩)
              | (with_reducible refine And.intro ?_ ?_)
              | (with_reducible intro _)
              | (with_reducible exact is_in _)
              | (simp -implicitDefEqProofs only [SD, SF, SL, e_nf, reduceCtorEq, implies_true, ↓reduceIte, Nat.reduceEqDiff, Nat.reduceAdd, Nat.reduceMul, Nat.reduceSub, Nat.reduceLeDiff, Nat.reduceLT, Int.reduceLT, Int.reduceLE, Int.reduceEq, Int.reduceToNat, Int.reduceAdd, Int.reduceSub, Int.reduceNeg, Int.reduceBEq, Int.reduceBNe, Nat.reduceBEq, Int.cast_ofNat_Int, decide_true, decide_false, ne_eq, eq_self_iff_true, beq_eq_false_iff_ne, bne_iff_ne, List.replicate, encEv, encFl, *]))))
            all_goals (first | omega | (simp only [maxLen, List.length_append, List.length_map, List.length_cons, List.length_nil] <;> omega) | (simp_all; done))
      · have hv1 : True := trivial
        have hneed : Hd (needB f sh x1 = (false || senB sh x1.key)) := Hd.mk (by simp [needB, h1, h2])
        iterate 10 (all_goals (try (first
          | (with_reducible refine ite_in (fun _ => ?_) (fun _ => ?_))
          | (with_reducible refine ⟨fun _ => ?_, fun _ => ?_⟩)
          | (with_reducible refine And.intro ?_ ?_)
          | (with_reducible intro _)
          | (with_reducible exact is_in _)
          | (simp -implicitDefEqProofs only [SD, SF, SL, e_nf, reduceCtorEq, implies_true, ↓reduceIte, Nat.reduceEqDiff, Nat.reduceAdd, Nat.reduceMul, Nat.reduceSub, Nat.reduceLeDiff, Nat.reduceLT, Int.reduceLT, Int.reduceLE, Int.reduceEq, Int.reduceToNat, Int.reduceAdd, Int.reduceSub, Int.reduceNeg, Int.reduceBEq, Int.reduceBNe, Nat.reduceBEq, Int.cast_ofNat_Int, decide_true, decide_false, ne_eq, eq_self_iff_true, beq_eq_false_iff_ne, bne_iff_ne, List.replicate, encEv, encFl, *]))))
        refine loop_q (X := List Ev × List Ev × Bool) (fun n x => sh = x.1 ++ x.2.1 ∧ n = x.2.1.length ∧ (x.2.2 = (false || senB x.1 x1.key))) (fun x => [(10, .int .i64 x.1.length), (9, .bool x.2.2)]) (fun _ => []) [29, 30, 31, 32, 33, 34, 35, 36, 37, 38, 39, 40, 41, 42, 43, 44, 45, 46, 47, 48, 49] []  (sh).length ([], sh, false) ⟨rfl, rfl, by rfl⟩ ?_ ?_
        · simp -implicitDefEqProofs only [SD, SF, SL, e_nf, reduceCtorEq, implies_true, ↓reduceIte, Nat.reduceEqDiff, Nat.reduceAdd, Nat.reduceMul, Nat.reduceSub, Nat.reduceLeDiff, Nat.reduceLT, Int.reduceLT, Int.reduceLE, Int.reduceEq, Int.reduceToNat, Int.reduceAdd, Int.reduceSub, Int.reduceNeg, Int.reduceBEq, Int.reduceBNe, Nat.reduceBEq, Int.cast_ofNat_Int, decide_true, decide_false, ne_eq, eq_self_iff_true, beq_eq_false_iff_ne, bne_iff_ne, List.replicate, encEv, encFl] <;> simp
        · rintro n ⟨pre2, rest2, a2⟩ ⟨he2, rfl, hI2⟩
          dsimp only at he2 hI2
          cases rest2 with
          | nil =>
            obtain rfl : sh = pre2 := by simpa using he2
            clear he2
            have hlt2 : ¬ (((sh).length : Int) < ((sh).length : Int)) := Int.lt_irrefl _
            have hq : needB f sh x1 = a2 := by rw [hneed.out]; exact hI2.symm
            clear hI2
            cases a2
            all_goals rcases hyn with hY | hN
            all_goals try (exfalso; first | exact hN.out hq | exact Bool.noConfusion (hq.symm.trans hY.out))
            all_goals clear hq
            iterate 60 (all_goals (try (first
              | (have := hp0; have := hN; (with_reducible refine back_in rest1.length [9, 10, 12, 13, 14, 15, 16, 17, 18, 19, 20, 21, 22, 23, 24, 25, 26, 27, 28, 29, 30, 31, 32, 33, 34, 35, 36, 37, 38, 39, 40, 41, 42, 43, 44, 45, 46, 47, 48, 49, 50, 51, 52, 53, 54, 55, 56, 57] [56] (pre1 ++ [x1], rest1, (DV.ow 11, [(11, Blk.vec 41 29 ([]))])) ?_ ⟨?_, ?_, ?_⟩ ?_)
                 · simp
                 · exact cut_snoc he1.out
                 · rfl
                 · first | (left; refine ⟨?_, rfl⟩; rw [hsn, if_neg hN.out]; exact hp0.out) | (right; rw [hsn, if_neg hN.out]) | (right; rw [hsn, if_pos hY.out, hp0.out]; rfl) | (right; rw [hsn, if_pos hY.out, List.map_append]; rfl)
                 · first | (simp -implicitDefEqProofs only [SD, SF, SL, e_nf, reduceCtorEq, implies_true, ↓reduceIte, Nat.reduceEqDiff, Nat.reduceAdd, Nat.reduceMul, Nat.reduceSub, Nat.reduceLeDiff, Nat.reduceLT, Int.reduceLT, Int.reduceLE, Int.reduceEq, Int.reduceToNat, Int.reduceAdd, Int.reduceSub, Int.reduceNeg, Int.reduceBEq, Int.reduceBNe, Nat.reduceBEq, Int.cast_ofNat_Int, decide_true, decide_false, ne_eq, eq_self_iff_true, beq_eq_false_iff_ne, bne_iff_ne, List.replicate, encEv, encFl] <;> simp <;> done) | (simp -implicitDefEqProofs only [SD, SF, SL, e_nf, reduceCtorEq, implies_true, ↓reduceIte, Nat.reduceEqDiff, Nat.reduceAdd, Nat.reduceMul, Nat.reduceSub, Nat.reduceLeDiff, Nat.reduceLT, Int.reduceLT, Int.reduceLE, Int.reduceEq, Int.reduceToNat, Int.reduceAdd, Int.reduceSub, Int.reduceNeg, Int.reduceBEq, Int.reduceBNe, Nat.reduceBEq, Int.cast_ofNat_Int, decide_true, decide_false, ne_eq, eq_self_iff_true, beq_eq_false_iff_ne, bne_iff_ne, List.replicate, encEv, encFl, *] <;> simp_all <;> done))
              | (have := hv1; have := hN; (with_reducible refine back_in rest1.length [9, 10, 12, 13, 14, 15, 16, 17, 18, 19, 20, 21, 22, 23, 24, 25, 26, 27, 28, 29, 30, 31, 32, 33, 34, 35, 36, 37, 38, 39, 40, 41, 42, 43, 44, 45, 46, 47, 48, 49, 50, 51, 52, 53, 54, 55, 56, 57] [56] (pre1 ++ [x1], rest1, (DV.ow 57, [(57, Blk.vec 41 29 ((lazyL f pre1 sh).map encEv))])) ?_ ⟨?_, ?_, ?_⟩ ?_)
                 · simp
                 · exact cut_snoc he1.out
                 · rfl
                 · first | (left; refine ⟨?_, rfl⟩; rw [hsn, if_neg hN.out]; exact hp0.out) | (right; rw [hsn, if_neg hN.out]) | (right; rw [hsn, if_pos hY.out, hp0.out]; rfl) | (right; rw [hsn, if_pos hY.out, List.map_append]; rfl)
                 · first | (simp -implicitDefEqProofs only [SD, SF, SL, e_nf, reduceCtorEq, implies_true, ↓reduceIte, Nat.reduceEqDiff, Nat.reduceAdd, Nat.reduceMul, Nat.reduceSub, Nat.reduceLeDiff, Nat.reduceLT, Int.reduceLT, Int.reduceLE, Int.reduceEq, Int.reduceToNat, Int.reduceAdd, Int.reduceSub, Int.reduceNeg, Int.reduceBEq, Int.reduceBNe, Nat.reduceBEq, Int.cast_ofNat_Int, decide_true, decide_false, ne_eq, eq_self_iff_true, beq_eq_false_iff_ne, bne_iff_ne, List.replicate, encEv, encFl] <;> simp <;> done) | (simp -implicitDefEqProofs only [SD, SF, SL, e_nf, reduceCtorEq, implies_true, ↓reduceIte, Nat.reduceEqDiff, Nat.reduceAdd, Nat.reduceMul, Nat.reduceSub, Nat.reduceLeDiff, Nat.reduceLT, Int.reduceLT, Int.reduceLE, Int.reduceEq, Int.reduceToNat, Int.reduceAdd, Int.reduceSub, Int.reduceNeg, Int.reduceBEq, Int.reduceBNe, Nat.reduceBEq, Int.cast_ofNat_Int, decide_true, decide_false, ne_eq, eq_self_iff_true, beq_eq_false_iff_ne, bne_iff_ne, List.replicate, encEv, encFl, *] <;> simp_all <;> done))
              | (have := hv1; have := hY; (with_reducible refine back_in rest1.length [9, 10, 12, 13, 14, 15, 16, 17, 18, 19, 20, 21, 22, 23, 24, 25, 26, 27, 28, 29, 30, 31, 32, 33, 34, 35, 36, 37, 38, 39, 40, 41, 42, 43, 44, 45, 46, 47, 48, 49, 50, 51, 52, 53, 54, 55, 56, 57] [56] (pre1 ++ [x1], rest1, (DV.ow 57, [(57, Blk.vec 41 29 ((lazyL f pre1 sh).map encEv ++ [encEv x1]))])) ?_ ⟨?_, ?_, ?_⟩ ?_)
                 · simp
                 · exact cut_snoc he1.out
                 · rfl
                 · first | (left; refine ⟨?_, rfl⟩; rw [hsn, if_neg hN.out]; exact hp0.out) | (right; rw [hsn, if_neg hN.out]) | (right; rw [hsn, if_pos hY.out, hp0.out]; rfl) | (right; rw [hsn, if_pos hY.out, List.map_append]; rfl)
                 · first | (simp -implicitDefEqProofs only [SD, SF, SL, e_nf, reduceCtorEq, implies_true, ↓reduceIte, Nat.reduceEqDiff, Nat.reduceAdd, Nat.reduceMul, Nat.reduceSub, Nat.reduceLeDiff, Nat.reduceLT, Int.reduceLT, Int.reduceLE, Int.reduceEq, Int.reduceToNat, Int.reduceAdd, Int.reduceSub, Int.reduceNeg, Int.reduceBEq, Int.reduceBNe, Nat.reduceBEq, Int.cast_ofNat_Int, decide_true, decide_false, ne_eq, eq_self_iff_true, beq_eq_false_iff_ne, bne_iff_ne, List.replicate, encEv, encFl] <;> simp <;> done) | (simp -implicitDefEqProofs only [SD, SF, SL, e_nf, reduceCtorEq, implies_true, ↓reduceIte, Nat.reduceEqDiff, Nat.reduceAdd, Nat.reduceMul, Nat.reduceSub, Nat.reduceLeDiff, Nat.reduceLT, Int.reduceLT, Int.reduceLE, Int.reduceEq, Int.reduceToNat, Int.reduceAdd, Int.reduceSub, Int.reduceNeg, Int.reduceBEq, Int.reduceBNe, Nat.reduceBEq, Int.cast_ofNat_Int, decide_true, decide_false, ne_eq, eq_self_iff_true, beq_eq_false_iff_ne, bne_iff_ne, List.replicate, encEv, encFl, *] <;> simp_all <;> done))
              | (have := hp0; have := hY; (with_reducible refine back_in rest1.length [9, 10, 12, 13, 14, 15, 16, 17, 18, 19, 20, 21, 22, 23, 24, 25, 26, 27, 28, 29, 30, 31, 32, 33, 34, 35, 36, 37, 38, 39, 40, 41, 42, 43, 44, 45, 46, 47, 48, 49, 50, 51, 52, 53, 54, 55, 56, 57] [56] (pre1 ++ [x1], rest1, (DV.ow 57, [(57, Blk.vec 41 29 ([encEv x1]))])) ?_ ⟨?_, ?_, ?_⟩ ?_)
                 · simp
                 · exact cut_snoc he1.out
                 · rfl
                 · first | (left; refine ⟨?_, rfl⟩; rw [hsn, if_neg hN.out]; exact hp0.out) | (right; rw [hsn, if_neg hN.out]) | (right; rw [hsn, if_pos hY.out, hp0.out]; rfl) | (right; rw [hsn, if_pos hY.out, List.map_append]; rfl)
                 · first | (simp -implicitDefEqProofs only [SD, SF, SL, e_nf, reduceCtorEq, implies_true, ↓reduceIte, Nat.reduceEqDiff, Nat.reduceAdd, Nat.reduceMul, Nat.reduceSub, Nat.reduceLeDiff, Nat.reduceLT, Int.reduceLT, Int.reduceLE, Int.reduceEq, Int.reduceToNat, Int.reduceAdd, Int.reduceSub, Int.reduceNeg, Int.reduceBEq, Int.reduceBNe, Nat.reduceBEq, Int.cast_ofNat_Int, decide_true, decide_false, ne_eq, eq_self_iff_true, beq_eq_false_iff_ne, bne_iff_ne, List.replicate, encEv, encFl] <;> simp <;> done) | (simp -implicitDefEqProofs only [SD, SF, SL, e_nf, reduceCtorEq, implies_true, ↓reduceIte, Nat.reduceEqDiff, Nat.reduceAdd, Nat.reduceMul, Nat.reduceSub, Nat.reduceLeDiff, Nat.reduceLT, Int.reduceLT, Int.reduceLE, Int.reduceEq, Int.reduceToNat, Int.reduceAdd, Int.reduceSub, Int.reduceNeg, Int.reduceBEq, Int.reduceBNe, Nat.reduceBEq, Int.cast_ofNat_Int, decide_true, decide_false, ne_eq, eq_self_iff_true, beq_eq_false_iff_ne, bne_iff_ne, List.replicate, encEv, encFl, *] <;> simp_all <;> done))
              | (with_reducible refine ite_in (fun _ => ?_) (fun _ => ?_))
              | (with_reducible refine ⟨fun _ => ?_, fun _ => ?_⟩)
              | (with_reducible refine And.intro ?_ ?_)
              | (with_reducible intro _)
              | (with_reducible exact is_in _)
              | (simp -implicitDefEqProofs only [SD, SF, SL, e_nf, reduceCtorEq, implies_true, ↓reduceIte, Nat.reduceEqDiff, Nat.reduceAdd, Nat.reduceMul, Nat.reduceSub, Nat.reduceLeDiff, Nat.reduceLT, Int.reduceLT, Int.reduceLE, Int.reduceEq, Int.reduceToNat, Int.reduceAdd, Int.reduceSub, Int.reduceNeg, Int.reduceBEq, Int.reduceBNe, Nat.reduceBEq, Int.cast_ofNat_Int, decide_true, decide_false, ne_eq, eq_self_iff_true, beq_eq_false_iff_ne, bne_iff_ne, List.replicate, encEv, encFl, *]))))
            all_goals (first | omega | (simp only [maxLen, List.length_append, List.length_map, List.length_cons, List.length_nil] <;> omega) | (simp_all; done))

          | cons x2 rest2 =>
            have hlt2 := cut_lt he2
            have hx2 := cutD encEv he2
            simp only [encEv] at hx2
            simp -implicitDefEqProofs only [SD, SF, SL, e_nf, reduceCtorEq, implies_true, ↓reduceIte, Nat.reduceEqDiff, Nat.reduceAdd, Nat.reduceMul, Nat.reduceSub, Nat.reduceLeDiff, Nat.reduceLT, Int.reduceLT, Int.reduceLE, Int.reduceEq, Int.reduceToNat, Int.reduceAdd, Int.reduceSub, Int.reduceNeg, Int.reduceBEq, Int.reduceBNe, Nat.reduceBEq, Int.cast_ofNat_Int, decide_true, decide_false, ne_eq, eq_self_iff_true, beq_eq_false_iff_ne, bne_iff_ne, List.replicate, encEv, encFl, hlt2]
            intro hl
            have hw2 := wrap_len (n := pre2.length) (m := (sh).length) (cut_lt' he2) (by simpa using hl)
            replace he2 := Hd.mk he2
            have hq : a2 = true → needB f sh x1 = true := by
              intro h
              rw [hneed.out, he2.out]
              rw [h] at hI2
              first | rfl | (simp at hI2; simp [senB_pre hI2])
            replace hI2 := Hd.mk hI2
            cases a2
            all_goals try (exfalso; have hz := hI2.out; simp at hz; done)
            all_goals rcases hyn with hY | hN
            all_goals try (exfalso; exact hN.out (hq rfl))
            all_goals clear hq
            iterate 60 (all_goals (try (first
              | (have := hp0; have := hN; (with_reducible refine back_in rest1.length [9, 10, 12, 13, 14, 15, 16, 17, 18, 19, 20, 21, 22, 23, 24, 25, 26, 27, 28, 29, 30, 31, 32, 33, 34, 35, 36, 37, 38, 39, 40, 41, 42, 43, 44, 45, 46, 47, 48, 49, 50, 51, 52, 53, 54, 55, 56, 57] [56] (pre1 ++ [x1], rest1, (DV.ow 11, [(11, Blk.vec 41 29 ([]))])) ?_ ⟨?_, ?_, ?_⟩ ?_)
                 · simp
                 · exact cut_snoc he1.out
                 · rfl
                 · first | (left; refine ⟨?_, rfl⟩; rw [hsn, if_neg hN.out]; exact hp0.out) | (right; rw [hsn, if_neg hN.out]) | (right; rw [hsn, if_pos hY.out, hp0.out]; rfl) | (right; rw [hsn, if_pos hY.out, List.map_append]; rfl)
                 · first | (simp -implicitDefEqProofs only [SD, SF, SL, e_nf, reduceCtorEq, implies_true, ↓reduceIte, Nat.reduceEqDiff, Nat.reduceAdd, Nat.reduceMul, Nat.reduceSub, Nat.reduceLeDiff, Nat.reduceLT, Int.reduceLT, Int.reduceLE, Int.reduceEq, Int.reduceToNat, Int.reduceAdd, Int.reduceSub, Int.reduceNeg, Int.reduceBEq, Int.reduceBNe, Nat.reduceBEq, Int.cast_ofNat_Int, decide_true, decide_false, ne_eq, eq_self_iff_true, beq_eq_false_iff_ne, bne_iff_ne, List.replicate, encEv, encFl] <;> simp <;> done) | (simp -implicitDefEqProofs only [SD, SF, SL, e_nf, reduceCtorEq, implies_true, ↓reduceIte, Nat.reduceEqDiff, Nat.reduceAdd, Nat.reduceMul, Nat.reduceSub, Nat.reduceLeDiff, Nat.reduceLT, Int.reduceLT, Int.reduceLE, Int.reduceEq, Int.reduceToNat, Int.reduceAdd, Int.reduceSub, Int.reduceNeg, Int.reduceBEq, Int.reduceBNe, Nat.reduceBEq, Int.cast_ofNat_Int, decide_true, decide_false, ne_eq, eq_self_iff_true, beq_eq_false_iff_ne, bne_iff_ne, List.replicate, encEv, encFl, *] <;> simp_all <;> done))
              | (have := hv1; have := hN; (with_reducible refine back_in rest1.length [9, 10, 12, 13, 14, 15, 16, 17, 18, 19, 20, 21, 22, 23, 24, 25, 26, 27, 28, 29, 30, 31, 32, 33, 34, 35, 36, 37, 38, 39, 40, 41, 42, 43, 44, 45, 46, 47, 48, 49, 50, 51, 52, 53, 54, 55, 56, 57] [56] (pre1 ++ [x1], rest1, (DV.ow 57, [(57, Blk.vec 41 29 ((lazyL f pre1 sh).map encEv))])) ?_ ⟨?_, ?_, ?_⟩ ?_)
                 · simp
                 · exact cut_snoc he1.out
                 · rfl
                 · first | (left; refine ⟨?_, rfl⟩; rw [hsn, if_neg hN.out]; exact hp0.out) | (right; rw [hsn, if_neg hN.out]) | (right; rw [hsn, if_pos hY.out, hp0.out]; rfl) | (right; rw [hsn, if_pos hY.out, List.map_append]; rfl)
                 · first | (simp -implicitDefEqProofs only [SD, SF, SL, e_nf, reduceCtorEq, implies_true, ↓reduceIte, Nat.reduceEqDiff, Nat.reduceAdd, Nat.reduceMul, Nat.reduceSub, Nat.reduceLeDiff, Nat.reduceLT, Int.reduceLT, Int.reduceLE, Int.reduceEq, Int.reduceToNat, Int.reduceAdd, Int.reduceSub, Int.reduceNeg, Int.reduceBEq, Int.reduceBNe, Nat.reduceBEq, Int.cast_ofNat_Int, decide_true, decide_false, ne_eq, eq_self_iff_true, beq_eq_false_iff_ne, bne_iff_ne, List.replicate, encEv, encFl] <;> simp <;> done) | (simp -implicitDefEqProofs only [SD, SF, SL, e_nf, reduceCtorEq, implies_true, ↓reduceIte, Nat.reduceEqDiff, Nat.reduceAdd, Nat.reduceMul, Nat.reduceSub, Nat.reduceLeDiff, Nat.reduceLT, Int.reduceLT, Int.reduceLE, Int.reduceEq, Int.reduceToNat, Int.reduceAdd, Int.reduceSub, Int.reduceNeg, Int.reduceBEq, Int.reduceBNe, Nat.reduceBEq, Int.cast_ofNat_Int, decide_true, decide_false, ne_eq, eq_self_iff_true, beq_eq_false_iff_ne, bne_iff_ne, List.replicate, encEv, encFl, *] <;> simp_all <;> done))
              | (have := hv1; have := hY; (with_reducible refine back_in rest1.length [9, 10, 12, 13, 14, 15, 16, 17, 18, 19, 20, 21, 22, 23, 24, 25, 26, 27, 28, 29, 30, 31, 32, 33, 34, 35, 36, 37, 38, 39, 40, 41, 42, 43, 44, 45, 46, 47, 48, 49, 50, 51, 52, 53, 54, 55, 56, 57] [56] (pre1 ++ [x1], rest1, (DV.ow 57, [(57, Blk.vec 41 29 ((lazyL f pre1 sh).map encEv ++ [encEv x1]))])) ?_ ⟨?_, ?_, ?_⟩ ?_)
                 · simp
                 · exact cut_snoc he1.out
                 · rfl
                 · first | (left; refine ⟨?_, rfl⟩; rw [hsn, if_neg hN.out]; exact hp0.out) | (right; rw [hsn, if_neg hN.out]) | (right; rw [hsn, if_pos hY.out, hp0.out]; rfl) | (right; rw [hsn, if_pos hY.out, List.map_append]; rfl)
                 · first | (simp -implicitDefEqProofs only [SD, SF, SL, e_nf, reduceCtorEq, implies_true, ↓reduceIte, Nat.reduceEqDiff, Nat.reduceAdd, Nat.reduceMul, Nat.reduceSub, Nat.reduceLeDiff, Nat.reduceLT, Int.reduceLT, Int.reduceLE, Int.reduceEq, Int.reduceToNat, Int.reduceAdd, Int.reduceSub, Int.reduceNeg, Int.reduceBEq, Int.reduceBNe, Nat.reduceBEq, Int.cast_ofNat_Int, decide_true, decide_false, ne_eq, eq_self_iff_true, beq_eq_false_iff_ne, bne_iff_ne, List.replicate, encEv, encFl] <;> simp <;> done) | (simp -implicitDefEqProofs only [SD, SF, SL, e_nf, reduceCtorEq, implies_true, ↓reduceIte, Nat.reduceEqDiff, Nat.reduceAdd, Nat.reduceMul, Nat.reduceSub, Nat.reduceLeDiff, Nat.reduceLT, Int.reduceLT, Int.reduceLE, Int.reduceEq, Int.reduceToNat, Int.reduceAdd, Int.reduceSub, Int.reduceNeg, Int.reduceBEq, Int.reduceBNe, Nat.reduceBEq, Int.cast_ofNat_Int, decide_true, decide_false, ne_eq, eq_self_iff_true, beq_eq_false_iff_ne, bne_iff_ne, List.replicate, encEv, encFl, *] <;> simp_all <;> done))
              | (have := hp0; have := hY; (with_reducible refine back_in rest1.length [9, 10, 12, 13, 14, 15, 16, 17, 18, 19, 20, 21, 22, 23, 24, 25, 26, 27, 28, 29, 30, 31, 32, 33, 34, 35, 36, 37, 38, 39, 40, 41, 42, 43, 44, 45, 46, 47, 48, 49, 50, 51, 52, 53, 54, 55, 56, 57] [56] (pre1 ++ [x1], rest1, (DV.ow 57, [(57, Blk.vec 41 29 ([encEv x1]))])) ?_ ⟨?_, ?_, ?_⟩ ?_)
                 · simp
                 · exact cut_snoc he1.out
                 · rfl
                 · first | (left; refine ⟨?_, rfl⟩; rw [hsn, if_neg hN.out]; exact hp0.out) | (right; rw [hsn, if_neg hN.out]) | (right; rw [hsn, if_pos hY.out, hp0.out]; rfl) | (right; rw [hsn, if_pos hY.out, List.map_append]; rfl)
                 · first | (simp -implicitDefEqProofs only [SD, SF, SL, e_nf, reduceCtorEq, implies_true, ↓reduceIte, Nat.reduceEqDiff, Nat.reduceAdd, Nat.reduceMul, Nat.reduceSub, Nat.reduceLeDiff, Nat.reduceLT, Int.reduceLT, Int.reduceLE, Int.reduceEq, Int.reduceToNat, Int.reduceAdd, Int.reduceSub, Int.reduceNeg, Int.reduceBEq, Int.reduceBNe, Nat.reduceBEq, Int.cast_ofNat_Int, decide_true, decide_false, ne_eq, eq_self_iff_true, beq_eq_false_iff_ne, bne_iff_ne, List.replicate, encEv, encFl] <;> simp <;> done) | (simp -implicitDefEqProofs only [SD, SF, SL, e_nf, reduceCtorEq, implies_true, ↓reduceIte, Nat.reduceEqDiff, Nat.reduceAdd, Nat.reduceMul, Nat.reduceSub, Nat.reduceLeDiff, Nat.reduceLT, Int.reduceLT, Int.reduceLE, Int.reduceEq, Int.reduceToNat, Int.reduceAdd, Int.reduceSub, Int.reduceNeg, Int.reduceBEq, Int.reduceBNe, Nat.reduceBEq, Int.cast_ofNat_Int, decide_true, decide_false, ne_eq, eq_self_iff_true, beq_eq_false_iff_ne, bne_iff_ne, List.replicate, encEv, encFl, *] <;> simp_all <;> done))
              | ((with_reducible refine back_in rest2.length [29, 30, 31, 32, 33, 34, 35, 36, 37, 38, 39, 40, 41, 42, 43, 44, 45, 46, 47, 48, 49] [] (pre2 ++ [x2], rest2, decide (x2.sender = x1.key)) ?_ ⟨?_, ?_, ?_⟩ ?_)
                 · simp
                 · exact cut_snoc he2.out
                 · rfl
                 · first | rfl | (rw [senB_snoc]; have hI2 := hI2.out; simp at hI2; simp [hI2]; done)
                 · first | (simp -implicitDefEqProofs only [SD, SF, SL, e_nf, reduceCtorEq, implies_true, ↓reduceIte, Nat.reduceEqDiff, Nat.reduceAdd, Nat.reduceMul, Nat.reduceSub, Nat.reduceLeDiff, Nat.reduceLT, Int.reduceLT, Int.reduceLE, Int.reduceEq, Int.reduceToNat, Int.reduceAdd, Int.reduceSub, Int.reduceNeg, Int.reduceBEq, Int.reduceBNe, Nat.reduceBEq, Int.cast_ofNat_Int, decide_true, decide_false, ne_eq, eq_self_iff_true, beq_eq_false_iff_ne, bne_iff_ne, List.replicate, encEv, encFl] <;> simp <;> done) | (simp -implicitDefEqProofs only [SD, SF, SL, e_nf, reduceCtorEq, implies_true, ↓reduceIte, Nat.reduceEqDiff, Nat.reduceAdd, Nat.reduceMul, Nat.reduceSub, Nat.reduceLeDiff, Nat.reduceLT, Int.reduceLT, Int.reduceLE, Int.reduceEq, Int.reduceToNat, Int.reduceAdd, Int.reduceSub, Int.reduceNeg, Int.reduceBEq, Int.reduceBNe, Nat.reduceBEq, Int.cast_ofNat_Int, decide_true, decide_false, ne_eq, eq_self_iff_true, beq_eq_false_iff_ne, bne_iff_ne, List.replicate, encEv, encFl, *] <;> simp_all <;> done))
              | (with_reducible refine ite_in (fun _ => ?_) (fun _ => ?_))
              | (with_reducible refine ⟨fun _ => ?_, fun _ => ?_⟩)
              | (with_reducible refine And.intro ?_ ?_)
              | (with_reducible intro _)
              | (with_reducible exact is_in _)
              | (simp -implicitDefEqProofs only [SD, SF, SL, e_nf, reduceCtorEq, implies_true, ↓reduceIte, Nat.reduceEqDiff, Nat.reduceAdd, Nat.reduceMul, Nat.reduceSub, Nat.reduceLeDiff, Nat.reduceLT, Int.reduceLT, Int.reduceLE, Int.reduceEq, Int.reduceToNat, Int.reduceAdd, Int.reduceSub, Int.reduceNeg, Int.reduceBEq, Int.reduceBNe, Nat.reduceBEq, Int.cast_ofNat_Int, decide_true, decide_false, ne_eq, eq_self_iff_true, beq_eq_false_iff_ne, bne_iff_ne, List.replicate, encEv, encFl, *]))))
            all_goals (first | omega | (simp only [maxLen, List.length_append, List.length_map, List.length_cons, List.length_nil] <;> omega) | (simp_all; done))
      · replace hp0 := Hd.mk hp0
        have hneed : Hd (needB f sh x1 = (true || senB sh x1.key)) := Hd.mk (by simp [needB, h1, h2])
        iterate 10 (all_goals (try (first
          | (with_reducible refine ite_in (fun _ => ?_) (fun _ => ?_))
          | (with_reducible refine ⟨fun _ => ?_, fun _ => ?_⟩)
          | (with_reducible refine And.intro ?_ ?_)
          | (with_reducible intro _)
          | (with_reducible exact is_in _)
          | (simp -implicitDefEqProofs only [SD, SF, SL, e_nf, reduceCtorEq, implies_true, ↓reduceIte, Nat.reduceEqDiff, Nat.reduceAdd, Nat.reduceMul, Nat.reduceSub, Nat.reduceLeDiff, Nat.reduceLT, Int.reduceLT, Int.reduceLE, Int.reduceEq, Int.reduceToNat, Int.reduceAdd, Int.reduceSub, Int.reduceNeg, Int.reduceBEq, Int.reduceBNe, Nat.reduceBEq, Int.cast_ofNat_Int, decide_true, decide_false, ne_eq, eq_self_iff_true, beq_eq_false_iff_ne, bne_iff_ne, List.replicate, encEv, encFl, *]))))
        refine loop_q (X := List Ev × List Ev × Bool) (fun n x => sh = x.1 ++ x.2.1 ∧ n = x.2.1.length ∧ (x.2.2 = (true || senB x.1 x1.key))) (fun x => [(10, .int .i64 x.1.length), (9, .bool x.2.2)]) (fun _ => []) [29, 30, 31, 32, 33, 34, 35, 36, 37, 38, 39, 40, 41, 42, 43, 44, 45, 46, 47, 48, 49] []  (sh).length ([], sh, true) ⟨rfl, rfl, by rfl⟩ ?_ ?_
        · simp -implicitDefEqProofs only [SD, SF, SL, e_nf, reduceCtorEq, implies_true, ↓reduceIte, Nat.reduceEqDiff, Nat.reduceAdd, Nat.reduceMul, Nat.reduceSub, Nat.reduceLeDiff, Nat.reduceLT, Int.reduceLT, Int.reduceLE, Int.reduceEq, Int.reduceToNat, Int.reduceAdd, Int.reduceSub, Int.reduceNeg, Int.reduceBEq, Int.reduceBNe, Nat.reduceBEq, Int.cast_ofNat_Int, decide_true, decide_false, ne_eq, eq_self_iff_true, beq_eq_false_iff_ne, bne_iff_ne, List.replicate, encEv, encFl] <;> simp
        · rintro n ⟨pre2, rest2, a2⟩ ⟨he2, rfl, hI2⟩
          dsimp only at he2 hI2
          cases rest2 with
          | nil =>
            obtain rfl : sh = pre2 := by simpa using he2
            clear he2
            have hlt2 : ¬ (((sh).length : Int) < ((sh).length : Int)) := Int.lt_irrefl _
            have hq : needB f sh x1 = a2 := by rw [hneed.out]; exact hI2.symm
            clear hI2
            cases a2
            all_goals rcases hyn with hY | hN
            all_goals try (exfalso; first | exact hN.out hq | exact Bool.noConfusion (hq.symm.trans hY.out))
            all_goals clear hq
            iterate 60 (all_goals (try (first
              | (have := hp0; have := hN; (with_reducible refine back_in rest1.length [9, 10, 12, 13, 14, 15, 16, 17, 18, 19, 20, 21, 22, 23, 24, 25, 26, 27, 28, 29, 30, 31, 32, 33, 34, 35, 36, 37, 38, 39, 40, 41, 42, 43, 44, 45, 46, 47, 48, 49, 50, 51, 52, 53, 54, 55, 56, 57] [56] (pre1 ++ [x1], rest1, (DV.ow 11, [(11, Blk.vec 41 29 ([]))])) ?_ ⟨?_, ?_, ?_⟩ ?_)
                 · simp
                 · exact cut_snoc he1.out
                 · rfl
                 · first | (left; refine ⟨?_, rfl⟩; rw [hsn, if_neg hN.out]; exact hp0.out) | (right; rw [hsn, if_neg hN.out]) | (right; rw [hsn, if_pos hY.out, hp0.out]; rfl) | (right; rw [hsn, if_pos hY.out, List.map_append]; rfl)
                 · first | (simp -implicitDefEqProofs only [SD, SF, SL, e_nf, reduceCtorEq, implies_true, ↓reduceIte, Nat.reduceEqDiff, Nat.reduceAdd, Nat.reduceMul, Nat.reduceSub, Nat.reduceLeDiff, Nat.reduceLT, Int.reduceLT, Int.reduceLE, Int.reduceEq, Int.reduceToNat, Int.reduceAdd, Int.reduceSub, Int.reduceNeg, Int.reduceBEq, Int.reduceBNe, Nat.reduceBEq, Int.cast_ofNat_Int, decide_true, decide_false, ne_eq, eq_self_iff_true, beq_eq_false_iff_ne, bne_iff_ne, List.replicate, encEv, encFl] <;> simp <;> done) | (simp -implicitDefEqProofs only [SD, SF, SL, e_nf, reduceCtorEq, implies_true, ↓reduceIte, Nat.reduceEqDiff, Nat.reduceAdd, Nat.reduceMul, Nat.reduceSub, Nat.reduceLeDiff, Nat.reduceLT, Int.reduceLT, Int.reduceLE, Int.reduceEq, Int.reduceToNat, Int.reduceAdd, Int.reduceSub, Int.reduceNeg, Int.reduceBEq, Int.reduceBNe, Nat.reduceBEq, Int.cast_ofNat_Int, decide_true, decide_false, ne_eq, eq_self_iff_true, beq_eq_false_iff_ne, bne_iff_ne, List.replicate, encEv, encFl, *] <;> simp_all <;> done))
              | (have := hv1; have := hN; (with_reducible refine back_in rest1.length [9, 10, 12, 13, 14, 15, 16, 17, 18, 19, 20, 21, 22, 23, 24, 25, 26, 27, 28, 29, 30, 31, 32, 33, 34, 35, 36, 37, 38, 39, 40, 41, 42, 43, 44, 45, 46, 47, 48, 49, 50, 51, 52, 53, 54, 55, 56, 57] [56] (pre1 ++ [x1], rest1, (DV.ow 57, [(57, Blk.vec 41 29 ((lazyL f pre1 sh).map encEv))])) ?_ ⟨?_, ?_, ?_⟩ ?_)
                 · simp
                 · exact cut_snoc he1.out
                 · rfl
                 · first | (left; refine ⟨?_, rfl⟩; rw [hsn, if_neg hN.out]; exact hp0.out) | (right; rw [hsn, if_neg hN.out]) | (right; rw [hsn, if_pos hY.out, hp0.out]; rfl) | (right; rw [hsn, if_pos hY.out, List.map_append]; rfl)
                 · first | (simp -implicitDefEqProofs only [SD, SF, SL, e_nf, reduceCtorEq, implies_true, ↓reduceIte, Nat.reduceEqDiff, Nat.reduceAdd, Nat.reduceMul, Nat.reduceSub, Nat.reduceLeDiff, Nat.reduceLT, Int.reduceLT, Int.reduceLE, Int.reduceEq, Int.reduceToNat, Int.reduceAdd, Int.reduceSub, Int.reduceNeg, Int.reduceBEq, Int.reduceBNe, Nat.reduceBEq, Int.cast_ofNat_Int, decide_true, decide_false, ne_eq, eq_self_iff_true, beq_eq_false_iff_ne, bne_iff_ne, List.replicate, encEv, encFl] <;> simp <;> done) | (simp -implicitDefEqProofs only [SD, SF, SL, e_nf, reduceCtorEq, implies_true, ↓reduceIte, Nat.reduceEqDiff, Nat.reduceAdd, Nat.reduceMul, Nat.reduceSub, Nat.reduceLeDiff, Nat.reduceLT, Int.reduceLT, Int.reduceLE, Int.reduceEq, Int.reduceToNat, Int.reduceAdd, Int.reduceSub, Int.reduceNeg, Int.reduceBEq, Int.reduceBNe, Nat.reduceBEq, Int.cast_ofNat_Int, decide_true, decide_false, ne_eq, eq_self_iff_true, beq_eq_false_iff_ne, bne_iff_ne, List.replicate, encEv, encFl, *] <;> simp_all <;> done))
              | (have := hv1; have := hY; (with_reducible refine back_in rest1.length [9, 10, 12, 13, 14, 15, 16, 17, 18, 19, 20, 21, 22, 23, 24, 25, 26, 27, 28, 29, 30, 31, 32, 33, 34, 35, 36, 37, 38, 39, 40, 41, 42, 43, 44, 45, 46, 47, 48, 49, 50, 51, 52, 53, 54, 55, 56, 57] [56] (pre1 ++ [x1], rest1, (DV.ow 57, [(57, Blk.vec 41 29 ((lazyL f pre1 sh).map encEv ++ [encEv x1]))])) ?_ ⟨?_, ?_, ?_⟩ ?_)
                 · simp
                 · exact cut_snoc he1.out
                 · rfl
                 · first | (left; refine ⟨?_, rfl⟩; rw [hsn, if_neg hN.out]; exact hp0.out) | (right; rw [hsn, if_neg hN.out]) | (right; rw [hsn, if_pos hY.out, hp0.out]; rfl) | (right; rw [hsn, if_pos hY.out, List.map_append]; rfl)
                 · first | (simp -implicitDefEqProofs only [SD, SF, SL, e_nf, reduceCtorEq, implies_true, ↓reduceIte, Nat.reduceEqDiff, Nat.reduceAdd, Nat.reduceMul, Nat.reduceSub, Nat.reduceLeDiff, Nat.reduceLT, Int.reduceLT, Int.reduceLE, Int.reduceEq, Int.reduceToNat, Int.reduceAdd, Int.reduceSub, Int.reduceNeg, Int.reduceBEq, Int.reduceBNe, Nat.reduceBEq, Int.cast_ofNat_Int, decide_true, decide_false, ne_eq, eq_self_iff_true, beq_eq_false_iff_ne, bne_iff_ne, List.replicate, encEv, encFl] <;> simp <;> done) | (simp -implicitDefEqProofs only [SD, SF, SL, e_nf, reduceCtorEq, implies_true, ↓reduceIte, Nat.reduceEqDiff, Nat.reduceAdd, Nat.reduceMul, Nat.reduceSub, Nat.reduceLeDiff, Nat.reduceLT, Int.reduceLT, Int.reduceLE, Int.reduceEq, Int.reduceToNat, Int.reduceAdd, Int.reduceSub, Int.reduceNeg, Int.reduceBEq, Int.reduceBNe, Nat.reduceBEq, Int.cast_ofNat_Int, decide_true, decide_false, ne_eq, eq_self_iff_true, beq_eq_false_iff_ne, bne_iff_ne, List.replicate, encEv, encFl, *] <;> simp_all <;> done))
              | (have := hp0; have := hY; (with_reducible refine back_in rest1.length [9, 10, 12, 13, 14, 15, 16, 17, 18, 19, 20, 21, 22, 23, 24, 25, 26, 27, 28, 29, 30, 31, 32, 33, 34, 35, 36, 37, 38, 39, 40, 41, 42, 43, 44, 45, 46, 47, 48, 49, 50, 51, 52, 53, 54, 55, 56, 57] [56] (pre1 ++ [x1], rest1, (DV.ow 57, [(57, Blk.vec 41 29 ([encEv x1]))])) ?_ ⟨?_, ?_, ?_⟩ ?_)
                 · simp
                 · exact cut_snoc he1.out
                 · rfl
                 · first | (left; refine ⟨?_, rfl⟩; rw [hsn, if_neg hN.out]; exact hp0.out) | (right; rw [hsn, if_neg hN.out]) | (right; rw [hsn, if_pos hY.out, hp0.out]; rfl) | (right; rw [hsn, if_pos hY.out, List.map_append]; rfl)
                 · first | (simp -implicitDefEqProofs only [SD, SF, SL, e_nf, reduceCtorEq, implies_true, ↓reduceIte, Nat.reduceEqDiff, Nat.reduceAdd, Nat.reduceMul, Nat.reduceSub, Nat.reduceLeDiff, Nat.reduceLT, Int.reduceLT, Int.reduceLE, Int.reduceEq, Int.reduceToNat, Int.reduceAdd, Int.reduceSub, Int.reduceNeg, Int.reduceBEq, Int.reduceBNe, Nat.reduceBEq, Int.cast_ofNat_Int, decide_true, decide_false, ne_eq, eq_self_iff_true, beq_eq_false_iff_ne, bne_iff_ne, List.replicate, encEv, encFl] <;> simp <;> done) | (simp -implicitDefEqProofs only [SD, SF, SL, e_nf, reduceCtorEq, implies_true, ↓reduceIte, Nat.reduceEqDiff, Nat.reduceAdd, Nat.reduceMul, Nat.reduceSub, Nat.reduceLeDiff, Nat.reduceLT, Int.reduceLT, Int.reduceLE, Int.reduceEq, Int.reduceToNat, Int.reduceAdd, Int.reduceSub, Int.reduceNeg, Int.reduceBEq, Int.reduceBNe, Nat.reduceBEq, Int.cast_ofNat_Int, decide_true, decide_false, ne_eq, eq_self_iff_true, beq_eq_false_iff_ne, bne_iff_ne, List.replicate, encEv, encFl, *] <;> simp_all <;> done))
              | (with_reducible refine ite_in (fun _ => ?_) (fun _ => ?_))
              | (with_reducible refine ⟨fun _ => ?_, fun _ => ?_⟩)
              | (with_reducible refine And.intro ?_ ?_)
              | (with_reducible intro _)
              | (with_reducible exact is_in _)
              | (simp -implicitDefEqProofs only [SD, SF, SL, e_nf, reduceCtorEq, implies_true, ↓reduceIte, Nat.reduceEqDiff, Nat.reduceAdd, Nat.reduceMul, Nat.reduceSub, Nat.reduceLeDiff, Nat.reduceLT, Int.reduceLT, Int.reduceLE, Int.reduceEq, Int.reduceToNat, Int.reduceAdd, Int.reduceSub, Int.reduceNeg, Int.reduceBEq, Int.reduceBNe, Nat.reduceBEq, Int.cast_ofNat_Int, decide_true, decide_false, ne_eq, eq_self_iff_true, beq_eq_false_iff_ne, bne_iff_ne, List.replicate, encEv, encFl, *]))))
            all_goals (first | omega | (simp only [maxLen, List.length_append, List.length_map, List.length_cons, List.length_nil] <;> omega) | (simp_all; done))

          | cons x2 rest2 =>
            have hlt2 := cut_lt he2
            have hx2 := cutD encEv he2
            simp only [encEv] at hx2
            simp -implicitDefEqProofs only [SD, SF, SL, e_nf, reduceCtorEq, implies_true, ↓reduceIte, Nat.reduceEqDiff, Nat.reduceAdd, Nat.reduceMul, Nat.reduceSub, Nat.reduceLeDiff, Nat.reduceLT, Int.reduceLT, Int.reduceLE, Int.reduceEq, Int.reduceToNat, Int.reduceAdd, Int.reduceSub, Int.reduceNeg, Int.reduceBEq, Int.reduceBNe, Nat.reduceBEq, Int.cast_ofNat_Int, decide_true, decide_false, ne_eq, eq_self_iff_true, beq_eq_false_iff_ne, bne_iff_ne, List.replicate, encEv, encFl, hlt2]
            intro hl
            have hw2 := wrap_len (n := pre2.length) (m := (sh).length) (cut_lt' he2) (by simpa using hl)
            replace he2 := Hd.mk he2
            have hq : a2 = true → needB f sh x1 = true := by
              intro h
              rw [hneed.out, he2.out]
              rw [h] at hI2
              first | rfl | (simp at hI2; simp [senB_pre hI2])
            replace hI2 := Hd.mk hI2
            cases a2
            all_goals try (exfalso; have hz := hI2.out; simp at hz; done)
            all_goals rcases hyn with hY | hN
            all_goals try (exfalso; exact hN.out (hq rfl))
            all_goals clear hq
            iterate 60 (all_goals (try (first
              | (have := hp0; have := hN; (with_reducible refine back_in rest1.length [9, 10, 12, 13, 14, 15, 16, 17, 18, 19, 20, 21, 22, 23, 24, 25, 26, 27, 28, 29, 30, 31, 32, 33, 34, 35, 36, 37, 38, 39, 40, 41, 42, 43, 44, 45, 46, 47, 48, 49, 50, 51, 52, 53, 54, 55, 56, 57] [56] (pre1 ++ [x1], rest1, (DV.ow 11, [(11, Blk.vec 41 29 ([]))])) ?_ ⟨?_, ?_, ?_⟩ ?_)
                 · simp
                 · exact cut_snoc he1.out
                 · rfl
                 · first | (left; refine ⟨?_, rfl⟩; rw [hsn, if_neg hN.out]; exact hp0.out) | (right; rw [hsn, if_neg hN.out]) | (right; rw [hsn, if_pos hY.out, hp0.out]; rfl) | (right; rw [hsn, if_pos hY.out, List.map_append]; rfl)
                 · first | (simp -implicitDefEqProofs only [SD, SF, SL, e_nf, reduceCtorEq, implies_true, ↓reduceIte, Nat.reduceEqDiff, Nat.reduceAdd, Nat.reduceMul, Nat.reduceSub, Nat.reduceLeDiff, Nat.reduceLT, Int.reduceLT, Int.reduceLE, Int.reduceEq, Int.reduceToNat, Int.reduceAdd, Int.reduceSub, Int.reduceNeg, Int.reduceBEq, Int.reduceBNe, Nat.reduceBEq, Int.cast_ofNat_Int, decide_true, decide_false, ne_eq, eq_self_iff_true, beq_eq_false_iff_ne, bne_iff_ne, List.replicate, encEv, encFl] <;> simp <;> done) | (simp -implicitDefEqProofs only [SD, SF, SL, e_nf, reduceCtorEq, implies_true, ↓reduceIte, Nat.reduceEqDiff, Nat.reduceAdd, Nat.reduceMul, Nat.reduceSub, Nat.reduceLeDiff, Nat.reduceLT, Int.reduceLT, Int.reduceLE, Int.reduceEq, Int.reduceToNat, Int.reduceAdd, Int.reduceSub, Int.reduceNeg, Int.reduceBEq, Int.reduceBNe, Nat.reduceBEq, Int.cast_ofNat_Int, decide_true, decide_false, ne_eq, eq_self_iff_true, beq_eq_false_iff_ne, bne_iff_ne, List.replicate, encEv, encFl, *] <;> simp_all <;> done))
              | (have := hv1; have := hN; (with_reducible refine back_in rest1.length [9, 10, 12, 13, 14, 15, 16, 17, 18, 19, 20, 21, 22, 23, 24, 25, 26, 27, 28, 29, 30, 31, 32, 33, 34, 35, 36, 37, 38, 39, 40, 41, 42, 43, 44, 45, 46, 47, 48, 49, 50, 51, 52, 53, 54, 55, 56, 57] [56] (pre1 ++ [x1], rest1, (DV.ow 57, [(57, Blk.vec 41 29 ((lazyL f pre1 sh).map encEv))])) ?_ ⟨?_, ?_, ?_⟩ ?_)
                 · simp
                 · exact cut_snoc he1.out
                 · rfl
                 · first | (left; refine ⟨?_, rfl⟩; rw [hsn, if_neg hN.out]; exact hp0.out) | (right; rw [hsn, if_neg hN.out]) | (right; rw [hsn, if_pos hY.out, hp0.out]; rfl) | (right; rw [hsn, if_pos hY.out, List.map_append]; rfl)
                 · first | (simp -implicitDefEqProofs only [SD, SF, SL, e_nf, reduceCtorEq, implies_true, ↓reduceIte, Nat.reduceEqDiff, Nat.reduceAdd, Nat.reduceMul, Nat.reduceSub, Nat.reduceLeDiff, Nat.reduceLT, Int.reduceLT, Int.reduceLE, Int.reduceEq, Int.reduceToNat, Int.reduceAdd, Int.reduceSub, Int.reduceNeg, Int.reduceBEq, Int.reduceBNe, Nat.reduceBEq, Int.cast_ofNat_Int, decide_true, decide_false, ne_eq, eq_self_iff_true, beq_eq_false_iff_ne, bne_iff_ne, List.replicate, encEv, encFl] <;> simp <;> done) | (simp -implicitDefEqProofs only [SD, SF, SL, e_nf, reduceCtorEq, implies_true, ↓reduceIte, Nat.reduceEqDiff, Nat.reduceAdd, Nat.reduceMul, Nat.reduceSub, Nat.reduceLeDiff, Nat.reduceLT, Int.reduceLT, Int.reduceLE, Int.reduceEq, Int.reduceToNat, Int.reduceAdd, Int.reduceSub, Int.reduceNeg, Int.reduceBEq, Int.reduceBNe, Nat.reduceBEq, Int.cast_ofNat_Int, decide_true, decide_false, ne_eq, eq_self_iff_true, beq_eq_false_iff_ne, bne_iff_ne, List.replicate, encEv, encFl, *] <;> simp_all <;> done))
              | (have := hv1; have := hY; (with_reducible refine back_in rest1.length [9, 10, 12, 13, 14, 15, 16, 17, 18, 19, 20, 21, 22, 23, 24, 25, 26, 27, 28, 29, 30, 31, 32, 33, 34, 35, 36, 37, 38, 39, 40, 41, 42, 43, 44, 45, 46, 47, 48, 49, 50, 51, 52, 53, 54, 55, 56, 57] [56] (pre1 ++ [x1], rest1, (DV.ow 57, [(57, Blk.vec 41 29 ((lazyL f pre1 sh).map encEv ++ [encEv x1]))])) ?_ ⟨?_, ?_, ?_⟩ ?_)
                 · simp
                 · exact cut_snoc he1.out
                 · rfl
                 · first | (left; refine ⟨?_, rfl⟩; rw [hsn, if_neg hN.out]; exact hp0.out) | (right; rw [hsn, if_neg hN.out]) | (right; rw [hsn, if_pos hY.out, hp0.out]; rfl) | (right; rw [hsn, if_pos hY.out, List.map_append]; rfl)
                 · first | (simp -implicitDefEqProofs only [SD, SF, SL, e_nf, reduceCtorEq, implies_true, ↓reduceIte, Nat.reduceEqDiff, Nat.reduceAdd, Nat.reduceMul, Nat.reduceSub, Nat.reduceLeDiff, Nat.reduceLT, Int.reduceLT, Int.reduceLE, Int.reduceEq, Int.reduceToNat, Int.reduceAdd, Int.reduceSub, Int.reduceNeg, Int.reduceBEq, Int.reduceBNe, Nat.reduceBEq, Int.cast_ofNat_Int, decide_true, decide_false, ne_eq, eq_self_iff_true, beq_eq_false_iff_ne, bne_iff_ne, List.replicate, encEv, encFl] <;> simp <;> done) | (simp -implicitDefEqProofs only [SD, SF, SL, e_nf, reduceCtorEq, implies_true, ↓reduceIte, Nat.reduceEqDiff, Nat.reduceAdd, Nat.reduceMul, Nat.reduceSub, Nat.reduceLeDiff, Nat.reduceLT, Int.reduceLT, Int.reduceLE, Int.reduceEq, Int.reduceToNat, Int.reduceAdd, Int.reduceSub, Int.reduceNeg, Int.reduceBEq, Int.reduceBNe, Nat.reduceBEq, Int.cast_ofNat_Int, decide_true, decide_false, ne_eq, eq_self_iff_true, beq_eq_false_iff_ne, bne_iff_ne, List.replicate, encEv, encFl, *] <;> simp_all <;> done))
              | (have := hp0; have := hY; (with_reducible refine back_in rest1.length [9, 10, 12, 13, 14, 15, 16, 17, 18, 19, 20, 21, 22, 23, 24, 25, 26, 27, 28, 29, 30, 31, 32, 33, 34, 35, 36, 37, 38, 39, 40, 41, 42, 43, 44, 45, 46, 47, 48, 49, 50, 51, 52, 53, 54, 55, 56, 57] [56] (pre1 ++ [x1], rest1, (DV.ow 57, [(57, Blk.vec 41 29 ([encEv x1]))])) ?_ ⟨?_, ?_, ?_⟩ ?_)
                 · simp
                 · exact cut_snoc he1.out
                 · rfl
                 · first | (left; refine ⟨?_, rfl⟩; rw [hsn, if_neg hN.out]; exact hp0.out) | (right; rw [hsn, if_neg hN.out]) | (right; rw [hsn, if_pos hY.out, hp0.out]; rfl) | (right; rw [hsn, if_pos hY.out, List.map_append]; rfl)
                 · first | (simp -implicitDefEqProofs only [SD, SF, SL, e_nf, reduceCtorEq, implies_true, ↓reduceIte, Nat.reduceEqDiff, Nat.reduceAdd, Nat.reduceMul, Nat.reduceSub, Nat.reduceLeDiff, Nat.reduceLT, Int.reduceLT, Int.reduceLE, Int.reduceEq, Int.reduceToNat, Int.reduceAdd, Int.reduceSub, Int.reduceNeg, Int.reduceBEq, Int.reduceBNe, Nat.reduceBEq, Int.cast_ofNat_Int, decide_true, decide_false, ne_eq, eq_self_iff_true, beq_eq_false_iff_ne, bne_iff_ne, List.replicate, encEv, encFl] <;> simp <;> done) | (simp -implicitDefEqProofs only [SD, SF, SL, e_nf, reduceCtorEq, implies_true, ↓reduceIte, Nat.reduceEqDiff, Nat.reduceAdd, Nat.reduceMul, Nat.reduceSub, Nat.reduceLeDiff, Nat.reduceLT, Int.reduceLT, Int.reduceLE, Int.reduceEq, Int.reduceToNat, Int.reduceAdd, Int.reduceSub, Int.reduceNeg, Int.reduceBEq, Int.reduceBNe, Nat.reduceBEq, Int.cast_ofNat_Int, decide_true, decide_false, ne_eq, eq_self_iff_true, beq_eq_false_iff_ne, bne_iff_ne, List.replicate, encEv, encFl, *] <;> simp_all <;> done))
              | ((with_reducible refine back_in rest2.length [29, 30, 31, 32, 33, 34, 35, 36, 37, 38, 39, 40, 41, 42, 43, 44, 45, 46, 47, 48, 49] [] (pre2 ++ [x2], rest2, decide (x2.sender = x1.key)) ?_ ⟨?_, ?_, ?_⟩ ?_)
                 · simp
                 · exact cut_snoc he2.out
                 · rfl
                 · first | rfl | simp
                 · first | (simp -implicitDefEqProofs only [SD, SF, SL, e_nf, reduceCtorEq, implies_true, ↓reduceIte, Nat.reduceEqDiff, Nat.reduceAdd, Nat.reduceMul, Nat.reduceSub, Nat.reduceLeDiff, Nat.reduceLT, Int.reduceLT, Int.reduceLE, Int.reduceEq, Int.reduceToNat, Int.reduceAdd, Int.reduceSub, Int.reduceNeg, Int.reduceBEq, Int.reduceBNe, Nat.reduceBEq, Int.cast_ofNat_Int, decide_true, decide_false, ne_eq, eq_self_iff_true, beq_eq_false_iff_ne, bne_iff_ne, List.replicate, encEv, encFl] <;> simp <;> done) | (simp -implicitDefEqProofs only [SD, SF, SL, e_nf, reduceCtorEq, implies_true, ↓reduceIte, Nat.reduceEqDiff, Nat.reduceAdd, Nat.reduceMul, Nat.reduceSub, Nat.reduceLeDiff, Nat.reduceLT, Int.reduceLT, Int.reduceLE, Int.reduceEq, Int.reduceToNat, Int.reduceAdd, Int.reduceSub, Int.reduceNeg, Int.reduceBEq, Int.reduceBNe, Nat.reduceBEq, Int.cast_ofNat_Int, decide_true, decide_false, ne_eq, eq_self_iff_true, beq_eq_false_iff_ne, bne_iff_ne, List.replicate, encEv, encFl, *] <;> simp_all <;> done))
              | (with_reducible refine ite_in (fun _ => ?_) (fun _ => ?_))
              | (with_reducible refine ⟨fun _ => ?_, fun _ => ?_⟩)
              | (with_reducible refine And.intro ?_ ?_)
              | (with_reducible intro _)
              | (with_reducible exact is_in _)
              | (simp -implicitDefEqProofs only [SD, SF, SL, e_nf, reduceCtorEq, implies_true, ↓reduceIte, Nat.reduceEqDiff, Nat.reduceAdd, Nat.reduceMul, Nat.reduceSub, Nat.reduceLeDiff, Nat.reduceLT, Int.reduceLT, Int.reduceLE, Int.reduceEq, Int.reduceToNat, Int.reduceAdd, Int.reduceSub, Int.reduceNeg, Int.reduceBEq, Int.reduceBNe, Nat.reduceBEq, Int.cast_ofNat_Int, decide_true, decide_false, ne_eq, eq_self_iff_true, beq_eq_false_iff_ne, bne_iff_ne, List.replicate, encEv, encFl, *]))))
            all_goals (first | omega | (simp only [maxLen, List.length_append, List.length_map, List.length_cons, List.length_nil] <;> omega) | (simp_all; done))
      · have hv1 : True := trivial
        have hneed : Hd (needB f sh x1 = (true || senB sh x1.key)) := Hd.mk (by simp [needB, h1, h2])
        iterate 10 (all_goals (try (first
          | (with_reducible refine ite_in (fun _ => ?_) (fun _ => ?_))
          | (with_reducible refine ⟨fun _ => ?_, fun _ => ?_⟩)
          | (with_reducible refine And.intro ?_ ?_)
          | (with_reducible intro _)
          | (with_reducible exact is_in _)
          | (simp -implicitDefEqProofs only [SD, SF, SL, e_nf, reduceCtorEq, implies_true, ↓reduceIte, Nat.reduceEqDiff, Nat.reduceAdd, Nat.reduceMul, Nat.reduceSub, Nat.reduceLeDiff, Nat.reduceLT, Int.reduceLT, Int.reduceLE, Int.reduceEq, Int.reduceToNat, Int.reduceAdd, Int.reduceSub, Int.reduceNeg, Int.reduceBEq, Int.reduceBNe, Nat.reduceBEq, Int.cast_ofNat_Int, decide_true, decide_false, ne_eq, eq_self_iff_true, beq_eq_false_iff_ne, bne_iff_ne, List.replicate, encEv, encFl, *]))))
        refine loop_q (X := List Ev × List Ev × Bool) (fun n x => sh = x.1 ++ x.2.1 ∧ n = x.2.1.length ∧ (x.2.2 = (true || senB x.1 x1.key))) (fun x => [(10, .int .i64 x.1.length), (9, .bool x.2.2)]) (fun _ => []) [29, 30, 31, 32, 33, 34, 35, 36, 37, 38, 39, 40, 41, 42, 43, 44, 45, 46, 47, 48, 49] []  (sh).length ([], sh, true) ⟨rfl, rfl, by rfl⟩ ?_ ?_
        · simp -implicitDefEqProofs only [SD, SF, SL, e_nf, reduceCtorEq, implies_true, ↓reduceIte, Nat.reduceEqDiff, Nat.reduceAdd, Nat.reduceMul, Nat.reduceSub, Nat.reduceLeDiff, Nat.reduceLT, Int.reduceLT, Int.reduceLE, Int.reduceEq, Int.reduceToNat, Int.reduceAdd, Int.reduceSub, Int.reduceNeg, Int.reduceBEq, Int.reduceBNe, Nat.reduceBEq, Int.cast_ofNat_Int, decide_true, decide_false, ne_eq, eq_self_iff_true, beq_eq_false_iff_ne, bne_iff_ne, List.replicate, encEv, encFl] <;> simp
        · rintro n ⟨pre2, rest2, a2⟩ ⟨he2, rfl, hI2⟩
          dsimp only at he2 hI2
          cases rest2 with
          | nil =>
            obtain rfl : sh = pre2 := by simpa using he2
            clear he2
            have hlt2 : ¬ (((sh).length : Int) < ((sh).length : Int)) := Int.lt_irrefl _
            have hq : needB f sh x1 = a2 := by rw [hneed.out]; exact hI2.symm
            clear hI2
            cases a2
            all_goals rcases hyn with hY | hN
            all_goals try (exfalso; first | exact hN.out hq | exact Bool.noConfusion (hq.symm.trans hY.out))
            all_goals clear hq
            iterate 60 (all_goals (try (first
              | (have := hp0; have := hN; (with_reducible refine back_in rest1.length [9, 10, 12, 13, 14, 15, 16, 17, 18, 19, 20, 21, 22, 23, 24, 25, 26, 27, 28, 29, 30, 31, 32, 33, 34, 35, 36, 37, 38, 39, 40, 41, 42, 43, 44, 45, 46, 47, 48, 49, 50, 51, 52, 53, 54, 55, 56, 57] [56] (pre1 ++ [x1], rest1, (DV.ow 11, [(11, Blk.vec 41 29 ([]))])) ?_ ⟨?_, ?_, ?_⟩ ?_)
                 · simp
                 · exact cut_snoc he1.out
                 · rfl
                 · first | (left; refine ⟨?_, rfl⟩; rw [hsn, if_neg hN.out]; exact hp0.out) | (right; rw [hsn, if_neg hN.out]) | (right; rw [hsn, if_pos hY.out, hp0.out]; rfl) | (right; rw [hsn, if_pos hY.out, List.map_append]; rfl)
                 · first | (simp -implicitDefEqProofs only [SD, SF, SL, e_nf, reduceCtorEq, implies_true, ↓reduceIte, Nat.reduceEqDiff, Nat.reduceAdd, Nat.reduceMul, Nat.reduceSub, Nat.reduceLeDiff, Nat.reduceLT, Int.reduceLT, Int.reduceLE, Int.reduceEq, Int.reduceToNat, Int.reduceAdd, Int.reduceSub, Int.reduceNeg, Int.reduceBEq, Int.reduceBNe, Nat.reduceBEq, Int.cast_ofNat_Int, decide_true, decide_false, ne_eq, eq_self_iff_true, beq_eq_false_iff_ne, bne_iff_ne, List.replicate, encEv, encFl] <;> simp <;> done) | (simp -implicitDefEqProofs only [SD, SF, SL, e_nf, reduceCtorEq, implies_true, ↓reduceIte, Nat.reduceEqDiff, Nat.reduceAdd, Nat.reduceMul, Nat.reduceSub, Nat.reduceLeDiff, Nat.reduceLT, Int.reduceLT, Int.reduceLE, Int.reduceEq, Int.reduceToNat, Int.reduceAdd, Int.reduceSub, Int.reduceNeg, Int.reduceBEq, Int.reduceBNe, Nat.reduceBEq, Int.cast_ofNat_Int, decide_true, decide_false, ne_eq, eq_self_iff_true, beq_eq_false_iff_ne, bne_iff_ne, List.replicate, encEv, encFl, *] <;> simp_all <;> done))
              | (have := hv1; have := hN; (with_reducible refine back_in rest1.length [9, 10, 12, 13, 14, 15, 16, 17, 18, 19, 20, 21, 22, 23, 24, 25, 26, 27, 28, 29, 30, 31, 32, 33, 34, 35, 36, 37, 38, 39, 40, 41, 42, 43, 44, 45, 46, 47, 48, 49, 50, 51, 52, 53, 54, 55, 56, 57] [56] (pre1 ++ [x1], rest1, (DV.ow 57, [(57, Blk.vec 41 29 ((lazyL f pre1 sh).map encEv))])) ?_ ⟨?_, ?_, ?_⟩ ?_)
                 · simp
                 · exact cut_snoc he1.out
                 · rfl
                 · first | (left; refine ⟨?_, rfl⟩; rw [hsn, if_neg hN.out]; exact hp0.out) | (right; rw [hsn, if_neg hN.out]) | (right; rw [hsn, if_pos hY.out, hp0.out]; rfl) | (right; rw [hsn, if_pos hY.out, List.map_append]; rfl)
                 · first | (simp -implicitDefEqProofs only [SD, SF, SL, e_nf, reduceCtorEq, implies_true, ↓reduceIte, Nat.reduceEqDiff, Nat.reduceAdd, Nat.reduceMul, Nat.reduceSub, Nat.reduceLeDiff, Nat.reduceLT, Int.reduceLT, Int.reduceLE, Int.reduceEq, Int.reduceToNat, Int.reduceAdd, Int.reduceSub, Int.reduceNeg, Int.reduceBEq, Int.reduceBNe, Nat.reduceBEq, Int.cast_ofNat_Int, decide_true, decide_false, ne_eq, eq_self_iff_true, beq_eq_false_iff_ne, bne_iff_ne, List.replicate, encEv, encFl] <;> simp <;> done) | (simp -implicitDefEqProofs only [SD, SF, SL, e_nf, reduceCtorEq, implies_true, ↓reduceIte, Nat.reduceEqDiff, Nat.reduceAdd, Nat.reduceMul, Nat.reduceSub, Nat.reduceLeDiff, Nat.reduceLT, Int.reduceLT, Int.reduceLE, Int.reduceEq, Int.reduceToNat, Int.reduceAdd, Int.reduceSub, Int.reduceNeg, Int.reduceBEq, Int.reduceBNe, Nat.reduceBEq, Int.cast_ofNat_Int, decide_true, decide_false, ne_eq, eq_self_iff_true, beq_eq_false_iff_ne, bne_iff_ne, List.replicate, encEv, encFl, *] <;> simp_all <;> done))
              | (have := hv1; have := hY; (with_reducible refine back_in rest1.length [9, 10, 12, 13, 14, 15, 16, 17, 18, 19, 20, 21, 22, 23, 24, 25, 26, 27, 28, 29, 30, 31, 32, 33, 34, 35, 36, 37, 38, 39, 40, 41, 42, 43, 44, 45, 46, 47, 48, 49, 50, 51, 52, 53, 54, 55, 56, 57] [56] (pre1 ++ [x1], rest1, (DV.ow 57, [(57, Blk.vec 41 29 ((lazyL f pre1 sh).map encEv ++ [encEv x1]))])) ?_ ⟨?_, ?_, ?_⟩ ?_)
                 · simp
                 · exact cut_snoc he1.out
                 · rfl
                 · first | (left; refine ⟨?_, rfl⟩; rw [hsn, if_neg hN.out]; exact hp0.out) | (right; rw [hsn, if_neg hN.out]) | (right; rw [hsn, if_pos hY.out, hp0.out]; rfl) | (right; rw [hsn, if_pos hY.out, List.map_append]; rfl)
                 · first | (simp -implicitDefEqProofs only [SD, SF, SL, e_nf, reduceCtorEq, implies_true, ↓reduceIte, Nat.reduceEqDiff, Nat.reduceAdd, Nat.reduceMul, Nat.reduceSub, Nat.reduceLeDiff, Nat.reduceLT, Int.reduceLT, Int.reduceLE, Int.reduceEq, Int.reduceToNat, Int.reduceAdd, Int.reduceSub, Int.reduceNeg, Int.reduceBEq, Int.reduceBNe, Nat.reduceBEq, Int.cast_ofNat_Int, decide_true, decide_false, ne_eq, eq_self_iff_true, beq_eq_false_iff_ne, bne_iff_ne, List.replicate, encEv, encFl] <;> simp <;> done) | (simp -implicitDefEqProofs only [SD, SF, SL, e_nf, reduceCtorEq, implies_true, ↓reduceIte, Nat.reduceEqDiff, Nat.reduceAdd, Nat.reduceMul, Nat.reduceSub, Nat.reduceLeDiff, Nat.reduceLT, Int.reduceLT, Int.reduceLE, Int.reduceEq, Int.reduceToNat, Int.reduceAdd, Int.reduceSub, Int.reduceNeg, Int.reduceBEq, Int.reduceBNe, Nat.reduceBEq, Int.cast_ofNat_Int, decide_true, decide_false, ne_eq, eq_self_iff_true, beq_eq_false_iff_ne, bne_iff_ne, List.replicate, encEv, encFl, *] <;> simp_all <;> done))
              | (have := hp0; have := hY; (with_reducible refine back_in rest1.length [9, 10, 12, 13, 14, 15, 16, 17, 18, 19, 20, 21, 22, 23, 24, 25, 26, 27, 28, 29, 30, 31, 32, 33, 34, 35, 36, 37, 38, 39, 40, 41, 42, 43, 44, 45, 46, 47, 48, 49, 50, 51, 52, 53, 54, 55, 56, 57] [56] (pre1 ++ [x1], rest1, (DV.ow 57, [(57, Blk.vec 41 29 ([encEv x1]))])) ?_ ⟨?_, ?_, ?_⟩ ?_)
                 · simp
                 · exact cut_snoc he1.out
                 · rfl
                 · first | (left; refine ⟨?_, rfl⟩; rw [hsn, if_neg hN.out]; exact hp0.out) | (right; rw [hsn, if_neg hN.out]) | (right; rw [hsn, if_pos hY.out, hp0.out]; rfl) | (right; rw [hsn, if_pos hY.out, List.map_append]; rfl)
                 · first | (simp -implicitDefEqProofs only [SD, SF, SL, e_nf, reduceCtorEq, implies_true, ↓reduceIte, Nat.reduceEqDiff, Nat.reduceAdd, Nat.reduceMul, Nat.reduceSub, Nat.reduceLeDiff, Nat.reduceLT, Int.reduceLT, Int.reduceLE, Int.reduceEq, Int.reduceToNat, Int.reduceAdd, Int.reduceSub, Int.reduceNeg, Int.reduceBEq, Int.reduceBNe, Nat.reduceBEq, Int.cast_ofNat_Int, decide_true, decide_false, ne_eq, eq_self_iff_true, beq_eq_false_iff_ne, bne_iff_ne, List.replicate, encEv, encFl] <;> simp <;> done) | (simp -implicitDefEqProofs only [SD, SF, SL, e_nf, reduceCtorEq, implies_true, ↓reduceIte, Nat.reduceEqDiff, Nat.reduceAdd, Nat.reduceMul, Nat.reduceSub, Nat.reduceLeDiff, Nat.reduceLT, Int.reduceLT, Int.reduceLE, Int.reduceEq, Int.reduceToNat, Int.reduceAdd, Int.reduceSub, Int.reduceNeg, Int.reduceBEq, Int.reduceBNe, Nat.reduceBEq, Int.cast_ofNat_Int, decide_true, decide_false, ne_eq, eq_self_iff_true, beq_eq_false_iff_ne, bne_iff_ne, List.replicate, encEv, encFl, *] <;> simp_all <;> done))
              | (with_reducible refine ite_in (fun _ => ?_) (fun _ => ?_))
              | (with_reducible refine ⟨fun _ => ?_, fun _ => ?_⟩)
              | (with_reducible refine And.intro ?_ ?_)
              | (with_reducible intro _)
              | (with_reducible exact is_in _)
              | (simp -implicitDefEqProofs only [SD, SF, SL, e_nf, reduceCtorEq, implies_true, ↓reduceIte, Nat.reduceEqDiff, Nat.reduceAdd, Nat.reduceMul, Nat.reduceSub, Nat.reduceLeDiff, Nat.reduceLT, Int.reduceLT, Int.reduceLE, Int.reduceEq, Int.reduceToNat, Int.reduceAdd, Int.reduceSub, Int.reduceNeg, Int.reduceBEq, Int.reduceBNe, Nat.reduceBEq, Int.cast_ofNat_Int, decide_true, decide_false, ne_eq, eq_self_iff_true, beq_eq_false_iff_ne, bne_iff_ne, List.replicate, encEv, encFl, *]))))
            all_goals (first | omega | (simp only [maxLen, List.length_append, List.length_map, List.length_cons, List.length_nil] <;> omega) | (simp_all; done))

          | cons x2 rest2 =>
            have hlt2 := cut_lt he2
            have hx2 := cutD encEv he2
            simp only [encEv] at hx2
            simp -implicitDefEqProofs only [SD, SF, SL, e_nf, reduceCtorEq, implies_true, ↓reduceIte, Nat.reduceEqDiff, Nat.reduceAdd, Nat.reduceMul, Nat.reduceSub, Nat.reduceLeDiff, Nat.reduceLT, Int.reduceLT, Int.reduceLE, Int.reduceEq, Int.reduceToNat, Int.reduceAdd, Int.reduceSub, Int.reduceNeg, Int.reduceBEq, Int.reduceBNe, Nat.reduceBEq, Int.cast_ofNat_Int, decide_true, decide_false, ne_eq, eq_self_iff_true, beq_eq_false_iff_ne, bne_iff_ne, List.replicate, encEv, encFl, hlt2]
            intro hl
            have hw2 := wrap_len (n := pre2.length) (m := (sh).length) (cut_lt' he2) (by simpa using hl)
            replace he2 := Hd.mk he2
            have hq : a2 = true → needB f sh x1 = true := by
              intro h
              rw [hneed.out, he2.out]
              rw [h] at hI2
              first | rfl | (simp at hI2; simp [senB_pre hI2])
            replace hI2 := Hd.mk hI2
            cases a2
            all_goals try (exfalso; have hz := hI2.out; simp at hz; done)
            all_goals rcases hyn with hY | hN
            all_goals try (exfalso; exact hN.out (hq rfl))
            all_goals clear hq
            iterate 60 (all_goals (try (first
              | (have := hp0; have := hN; (with_reducible refine back_in rest1.length [9, 10, 12, 13, 14, 15, 16, 17, 18, 19, 20, 21, 22, 23, 24, 25, 26, 27, 28, 29, 30, 31, 32, 33, 34, 35, 36, 37, 38, 39, 40, 41, 42, 43, 44, 45, 46, 47, 48, 49, 50, 51, 52, 53, 54, 55, 56, 57] [56] (pre1 ++ [x1], rest1, (DV.ow 11, [(11, Blk.vec 41 29 ([]))])) ?_ ⟨?_, ?_, ?_⟩ ?_)
                 · simp
                 · exact cut_snoc he1.out
                 · rfl
                 · first | (left; refine ⟨?_, rfl⟩; rw [hsn, if_neg hN.out]; exact hp0.out) | (right; rw [hsn, if_neg hN.out]) | (right; rw [hsn, if_pos hY.out, hp0.out]; rfl) | (right; rw [hsn, if_pos hY.out, List.map_append]; rfl)
                 · first | (simp -implicitDefEqProofs only [SD, SF, SL, e_nf, reduceCtorEq, implies_true, ↓reduceIte, Nat.reduceEqDiff, Nat.reduceAdd, Nat.reduceMul, Nat.reduceSub, Nat.reduceLeDiff, Nat.reduceLT, Int.reduceLT, Int.reduceLE, Int.reduceEq, Int.reduceToNat, Int.reduceAdd, Int.reduceSub, Int.reduceNeg, Int.reduceBEq, Int.reduceBNe, Nat.reduceBEq, Int.cast_ofNat_Int, decide_true, decide_false, ne_eq, eq_self_iff_true, beq_eq_false_iff_ne, bne_iff_ne, List.replicate, encEv, encFl] <;> simp <;> done) | (simp -implicitDefEqProofs only [SD, SF, SL, e_nf, reduceCtorEq, implies_true, ↓reduceIte, Nat.reduceEqDiff, Nat.reduceAdd, Nat.reduceMul, Nat.reduceSub, Nat.reduceLeDiff, Nat.reduceLT, Int.reduceLT, Int.reduceLE, Int.reduceEq, Int.reduceToNat, Int.reduceAdd, Int.reduceSub, Int.reduceNeg, Int.reduceBEq, Int.reduceBNe, Nat.reduceBEq, Int.cast_ofNat_Int, decide_true, decide_false, ne_eq, eq_self_iff_true, beq_eq_false_iff_ne, bne_iff_ne, List.replicate, encEv, encFl, *] <;> simp_all <;> done))
              | (have := hv1; have := hN; (with_reducible refine back_in rest1.length [9, 10, 12, 13, 14, 15, 16, 17, 18, 19, 20, 21, 22, 23, 24, 25, 26, 27, 28, 29, 30, 31, 32, 33, 34, 35, 36, 37, 38, 39, 40, 41, 42, 43, 44, 45, 46, 47, 48, 49, 50, 51, 52, 53, 54, 55, 56, 57] [56] (pre1 ++ [x1], rest1, (DV.ow 57, [(57, Blk.vec 41 29 ((lazyL f pre1 sh).map encEv))])) ?_ ⟨?_, ?_, ?_⟩ ?_)
                 · simp
                 · exact cut_snoc he1.out
                 · rfl
                 · first | (left; refine ⟨?_, rfl⟩; rw [hsn, if_neg hN.out]; exact hp0.out) | (right; rw [hsn, if_neg hN.out]) | (right; rw [hsn, if_pos hY.out, hp0.out]; rfl) | (right; rw [hsn, if_pos hY.out, List.map_append]; rfl)
                 · first | (simp -implicitDefEqProofs only [SD, SF, SL, e_nf, reduceCtorEq, implies_true, ↓reduceIte, Nat.reduceEqDiff, Nat.reduceAdd, Nat.reduceMul, Nat.reduceSub, Nat.reduceLeDiff, Nat.reduceLT, Int.reduceLT, Int.reduceLE, Int.reduceEq, Int.reduceToNat, Int.reduceAdd, Int.reduceSub, Int.reduceNeg, Int.reduceBEq, Int.reduceBNe, Nat.reduceBEq, Int.cast_ofNat_Int, decide_true, decide_false, ne_eq, eq_self_iff_true, beq_eq_false_iff_ne, bne_iff_ne, List.replicate, encEv, encFl] <;> simp <;> done) | (simp -implicitDefEqProofs only [SD, SF, SL, e_nf, reduceCtorEq, implies_true, ↓reduceIte, Nat.reduceEqDiff, Nat.reduceAdd, Nat.reduceMul, Nat.reduceSub, Nat.reduceLeDiff, Nat.reduceLT, Int.reduceLT, Int.reduceLE, Int.reduceEq, Int.reduceToNat, Int.reduceAdd, Int.reduceSub, Int.reduceNeg, Int.reduceBEq, Int.reduceBNe, Nat.reduceBEq, Int.cast_ofNat_Int, decide_true, decide_false, ne_eq, eq_self_iff_true, beq_eq_false_iff_ne, bne_iff_ne, List.replicate, encEv, encFl, *] <;> simp_all <;> done))
              | (have := hv1; have := hY; (with_reducible refine back_in rest1.length [9, 10, 12, 13, 14, 15, 16, 17, 18, 19, 20, 21, 22, 23, 24, 25, 26, 27, 28, 29, 30, 31, 32, 33, 34, 35, 36, 37, 38, 39, 40, 41, 42, 43, 44, 45, 46, 47, 48, 49, 50, 51, 52, 53, 54, 55, 56, 57] [56] (pre1 ++ [x1], rest1, (DV.ow 57, [(57, Blk.vec 41 29 ((lazyL f pre1 sh).map encEv ++ [encEv x1]))])) ?_ ⟨?_, ?_, ?_⟩ ?_)
                 · simp
                 · exact cut_snoc he1.out
                 · rfl
                 · first | (left; refine ⟨?_, rfl⟩; rw [hsn, if_neg hN.out]; exact hp0.out) | (right; rw [hsn, if_neg hN.out]) | (right; rw [hsn, if_pos hY.out, hp0.out]; rfl) | (right; rw [hsn, if_pos hY.out, List.map_append]; rfl)
                 · first | (simp -implicitDefEqProofs only [SD, SF, SL, e_nf, reduceCtorEq, implies_true, ↓reduceIte, Nat.reduceEqDiff, Nat.reduceAdd, Nat.reduceMul, Nat.reduceSub, Nat.reduceLeDiff, Nat.reduceLT, Int.reduceLT, Int.reduceLE, Int.reduceEq, Int.reduceToNat, Int.reduceAdd, Int.reduceSub, Int.reduceNeg, Int.reduceBEq, Int.reduceBNe, Nat.reduceBEq, Int.cast_ofNat_Int, decide_true, decide_false, ne_eq, eq_self_iff_true, beq_eq_false_iff_ne, bne_iff_ne, List.replicate, encEv, encFl] <;> simp <;> done) | (simp -implicitDefEqProofs only [SD, SF, SL, e_nf, reduceCtorEq, implies_true, ↓reduceIte, Nat.reduceEqDiff, Nat.reduceAdd, Nat.reduceMul, Nat.reduceSub, Nat.reduceLeDiff, Nat.reduceLT, Int.reduceLT, Int.reduceLE, Int.reduceEq, Int.reduceToNat, Int.reduceAdd, Int.reduceSub, Int.reduceNeg, Int.reduceBEq, Int.reduceBNe, Nat.reduceBEq, Int.cast_ofNat_Int, decide_true, decide_false, ne_eq, eq_self_iff_true, beq_eq_false_iff_ne, bne_iff_ne, List.replicate, encEv, encFl, *] <;> simp_all <;> done))
              | (have := hp0; have := hY; (with_reducible refine back_in rest1.length [9, 10, 12, 13, 14, 15, 16, 17, 18, 19, 20, 21, 22, 23, 24, 25, 26, 27, 28, 29, 30, 31, 32, 33, 34, 35, 36, 37, 38, 39, 40, 41, 42, 43, 44, 45, 46, 47, 48, 49, 50, 51, 52, 53, 54, 55, 56, 57] [56] (pre1 ++ [x1], rest1, (DV.ow 57, [(57, Blk.vec 41 29 ([encEv x1]))])) ?_ ⟨?_, ?_, ?_⟩ ?_)
                 · simp
                 · exact cut_snoc he1.out
                 · rfl
                 · first | (left; refine ⟨?_, rfl⟩; rw [hsn, if_neg hN.out]; exact hp0.out) | (right; rw [hsn, if_neg hN.out]) | (right; rw [hsn, if_pos hY.out, hp0.out]; rfl) | (right; rw [hsn, if_pos hY.out, List.map_append]; rfl)
                 · first | (simp -implicitDefEqProofs only [SD, SF, SL, e_nf, reduceCtorEq, implies_true, ↓reduceIte, Nat.reduceEqDiff, Nat.reduceAdd, Nat.reduceMul, Nat.reduceSub, Nat.reduceLeDiff, Nat.reduceLT, Int.reduceLT, Int.reduceLE, Int.reduceEq, Int.reduceToNat, Int.reduceAdd, Int.reduceSub, Int.reduceNeg, Int.reduceBEq, Int.reduceBNe, Nat.reduceBEq, Int.cast_ofNat_Int, decide_true, decide_false, ne_eq, eq_self_iff_true, beq_eq_false_iff_ne, bne_iff_ne, List.replicate, encEv, encFl] <;> simp <;> done) | (simp -implicitDefEqProofs only [SD, SF, SL, e_nf, reduceCtorEq, implies_true, ↓reduceIte, Nat.reduceEqDiff, Nat.reduceAdd, Nat.reduceMul, Nat.reduceSub, Nat.reduceLeDiff, Nat.reduceLT, Int.reduceLT, Int.reduceLE, Int.reduceEq, Int.reduceToNat, Int.reduceAdd, Int.reduceSub, Int.reduceNeg, Int.reduceBEq, Int.reduceBNe, Nat.reduceBEq, Int.cast_ofNat_Int, decide_true, decide_false, ne_eq, eq_self_iff_true, beq_eq_false_iff_ne, bne_iff_ne, List.replicate, encEv, encFl, *] <;> simp_all <;> done))
              | ((with_reducible refine back_in rest2.length [29, 30, 31, 32, 33, 34, 35, 36, 37, 38, 39, 40, 41, 42, 43, 44, 45, 46, 47, 48, 49] [] (pre2 ++ [x2], rest2, decide (x2.sender = x1.key)) ?_ ⟨?_, ?_, ?_⟩ ?_)
                 · simp
                 · exact cut_snoc he2.out
                 · rfl
                 · first | rfl | simp
                 · first | (simp -implicitDefEqProofs only [SD, SF, SL, e_nf, reduceCtorEq, implies_true, ↓reduceIte, Nat.reduceEqDiff, Nat.reduceAdd, Nat.reduceMul, Nat.reduceSub, Nat.reduceLeDiff, Nat.reduceLT, Int.reduceLT, Int.reduceLE, Int.reduceEq, Int.reduceToNat, Int.reduceAdd, Int.reduceSub, Int.reduceNeg, Int.reduceBEq, Int.reduceBNe, Nat.reduceBEq, Int.cast_ofNat_Int, decide_true, decide_false, ne_eq, eq_self_iff_true, beq_eq_false_iff_ne, bne_iff_ne, List.replicate, encEv, encFl] <;> simp <;> done) | (simp -implicitDefEqProofs only [SD, SF, SL, e_nf, reduceCtorEq, implies_true, ↓reduceIte, Nat.reduceEqDiff, Nat.reduceAdd, Nat.reduceMul, Nat.reduceSub, Nat.reduceLeDiff, Nat.reduceLT, Int.reduceLT, Int.reduceLE, Int.reduceEq, Int.reduceToNat, Int.reduceAdd, Int.reduceSub, Int.reduceNeg, Int.reduceBEq, Int.reduceBNe, Nat.reduceBEq, Int.cast_ofNat_Int, decide_true, decide_false, ne_eq, eq_self_iff_true, beq_eq_false_iff_ne, bne_iff_ne, List.replicate, encEv, encFl, *] <;> simp_all <;> done))
              | (with_reducible refine ite_in (fun _ => ?_) (fun _ => ?_))
              | (with_reducible refine ⟨fun _ => ?_, fun _ => ?_⟩)
              | (with_reducible refine And.intro ?_ ?_)
              | (with_reducible intro _)
              | (with_reducible exact is_in _)
              | (simp -implicitDefEqProofs only [SD, SF, SL, e_nf, reduceCtorEq, implies_true, ↓reduceIte, Nat.reduceEqDiff, Nat.reduceAdd, Nat.reduceMul, Nat.reduceSub, Nat.reduceLeDiff, Nat.reduceLT, Int.reduceLT, Int.reduceLE, Int.reduceEq, Int.reduceToNat, Int.reduceAdd, Int.reduceSub, Int.reduceNeg, Int.reduceBEq, Int.reduceBNe, Nat.reduceBEq, Int.cast_ofNat_Int, decide_true, decide_false, ne_eq, eq_self_iff_true, beq_eq_false_iff_ne, bne_iff_ne, List.replicate, encEv, encFl, *]))))
            all_goals (first | omega | (simp only [maxLen, List.length_append, List.length_map, List.length_cons, List.length_nil] <;> omega) | (simp_all; done))
      · replace hp0 := Hd.mk hp0
        have hneed : Hd (needB f sh x1 = (true || senB sh x1.key)) := Hd.mk (by simp [needB, h1, h2])
        iterate 10 (all_goals (try (first
          | (with_reducible refine ite_in (fun _ => ?_) (fun _ => ?_))
          | (with_reducible refine ⟨fun _ => ?_, fun _ => ?_⟩)
          | (with_reducible refine And.intro ?_ ?_)
          | (with_reducible intro _)
          | (with_reducible exact is_in _)
          | (simp -implicitDefEqProofs only [SD, SF, SL, e_nf, reduceCtorEq, implies_true, ↓reduceIte, Nat.reduceEqDiff, Nat.reduceAdd, Nat.reduceMul, Nat.reduceSub, Nat.reduceLeDiff, Nat.reduceLT, Int.reduceLT, Int.reduceLE, Int.reduceEq, Int.reduceToNat, Int.reduceAdd, Int.reduceSub, Int.reduceNeg, Int.reduceBEq, Int.reduceBNe, Nat.reduceBEq, Int.cast_ofNat_Int, decide_true, decide_false, ne_eq, eq_self_iff_true, beq_eq_false_iff_ne, bne_iff_ne, List.replicate, encEv, encFl, *]))))
        refine loop_q (X := List Ev × List Ev × Bool) (fun n x => sh = x.1 ++ x.2.1 ∧ n = x.2.1.length ∧ (x.2.2 = (true || senB x.1 x1.key))) (fun x => [(10, .int .i64 x.1.length), (9, .bool x.2.2)]) (fun _ => []) [29, 30, 31, 32, 33, 34, 35, 36, 37, 38, 39, 40, 41, 42, 43, 44, 45, 46, 47, 48, 49] []  (sh).length ([], sh, true) ⟨rfl, rfl, by rfl⟩ ?_ ?_
        · simp -implicitDefEqProofs only [SD, SF, SL, e_nf, reduceCtorEq, implies_true, ↓reduceIte, Nat.reduceEqDiff, Nat.reduceAdd, Nat.reduceMul, Nat.reduceSub, Nat.reduceLeDiff, Nat.reduceLT, Int.reduceLT, Int.reduceLE, Int.reduceEq, Int.reduceToNat, Int.reduceAdd, Int.reduceSub, Int.reduceNeg, Int.reduceBEq, Int.reduceBNe, Nat.reduceBEq, Int.cast_ofNat_Int, decide_true, decide_false, ne_eq, eq_self_iff_true, beq_eq_false_iff_ne, bne_iff_ne, List.replicate, encEv, encFl] <;> simp
        · rintro n ⟨pre2, rest2, a2⟩ ⟨he2, rfl, hI2⟩
          dsimp only at he2 hI2
          cases rest2 with
          | nil =>
            obtain rfl : sh = pre2 := by simpa using he2
            clear he2
            have hlt2 : ¬ (((sh).length : Int) < ((sh).length : Int)) := Int.lt_irrefl _
            have hq : needB f sh x1 = a2 := by rw [hneed.out]; exact hI2.symm
            clear hI2
            cases a2
            all_goals rcases hyn with hY | hN
            all_goals try (exfalso; first | exact hN.out hq | exact Bool.noConfusion (hq.symm.trans hY.out))
            all_goals clear hq
            iterate 60 (all_goals (try (first
              | (have := hp0; have := hN; (with_reducible refine back_in rest1.length [9, 10, 12, 13, 14, 15, 16, 17, 18, 19, 20, 21, 22, 23, 24, 25, 26, 27, 28, 29, 30, 31, 32, 33, 34, 35, 36, 37, 38, 39, 40, 41, 42, 43, 44, 45, 46, 47, 48, 49, 50, 51, 52, 53, 54, 55, 56, 57] [56] (pre1 ++ [x1], rest1, (DV.ow 11, [(11, Blk.vec 41 29 ([]))])) ?_ ⟨?_, ?_, ?_⟩ ?_)
                 · simp
                 · exact cut_snoc he1.out
                 · rfl
                 · first | (left; refine ⟨?_, rfl⟩; rw [hsn, if_neg hN.out]; exact hp0.out) | (right; rw [hsn, if_neg hN.out]) | (right; rw [hsn, if_pos hY.out, hp0.out]; rfl) | (right; rw [hsn, if_pos hY.out, List.map_append]; rfl)
                 · first | (simp -implicitDefEqProofs only [SD, SF, SL, e_nf, reduceCtorEq, implies_true, ↓reduceIte, Nat.reduceEqDiff, Nat.reduceAdd, Nat.reduceMul, Nat.reduceSub, Nat.reduceLeDiff, Nat.reduceLT, Int.reduceLT, Int.reduceLE, Int.reduceEq, Int.reduceToNat, Int.reduceAdd, Int.reduceSub, Int.reduceNeg, Int.reduceBEq, Int.reduceBNe, Nat.reduceBEq, Int.cast_ofNat_Int, decide_true, decide_false, ne_eq, eq_self_iff_true, beq_eq_false_iff_ne, bne_iff_ne, List.replicate, encEv, encFl] <;> simp <;> done) | (simp -implicitDefEqProofs only [SD, SF, SL, e_nf, reduceCtorEq, implies_true, ↓reduceIte, Nat.reduceEqDiff, Nat.reduceAdd, Nat.reduceMul, Nat.reduceSub, Nat.reduceLeDiff, Nat.reduceLT, Int.reduceLT, Int.reduceLE, Int.reduceEq, Int.reduceToNat, Int.reduceAdd, Int.reduceSub, Int.reduceNeg, Int.reduceBEq, Int.reduceBNe, Nat.reduceBEq, Int.cast_ofNat_Int, decide_true, decide_false, ne_eq, eq_self_iff_true, beq_eq_false_iff_ne, bne_iff_ne, List.replicate, encEv, encFl, *] <;> simp_all <;> done))
              | (have := hv1; have := hN; (with_reducible refine back_in rest1.length [9, 10, 12, 13, 14, 15, 16, 17, 18, 19, 20, 21, 22, 23, 24, 25, 26, 27, 28, 29, 30, 31, 32, 33, 34, 35, 36, 37, 38, 39, 40, 41, 42, 43, 44, 45, 46, 47, 48, 49, 50, 51, 52, 53, 54, 55, 56, 57] [56] (pre1 ++ [x1], rest1, (DV.ow 57, [(57, Blk.vec 41 29 ((lazyL f pre1 sh).map encEv))])) ?_ ⟨?_, ?_, ?_⟩ ?_)
                 · simp
                 · exact cut_snoc he1.out
                 · rfl
                 · first | (left; refine ⟨?_, rfl⟩; rw [hsn, if_neg hN.out]; exact hp0.out) | (right; rw [hsn, if_neg hN.out]) | (right; rw [hsn, if_pos hY.out, hp0.out]; rfl) | (right; rw [hsn, if_pos hY.out, List.map_append]; rfl)
                 · first | (simp -implicitDefEqProofs only [SD, SF, SL, e_nf, reduceCtorEq, implies_true, ↓reduceIte, Nat.reduceEqDiff, Nat.reduceAdd, Nat.reduceMul, Nat.reduceSub, Nat.reduceLeDiff, Nat.reduceLT, Int.reduceLT, Int.reduceLE, Int.reduceEq, Int.reduceToNat, Int.reduceAdd, Int.reduceSub, Int.reduceNeg, Int.reduceBEq, Int.reduceBNe, Nat.reduceBEq, Int.cast_ofNat_Int, decide_true, decide_false, ne_eq, eq_self_iff_true, beq_eq_false_iff_ne, bne_iff_ne, List.replicate, encEv, encFl] <;> simp <;> done) | (simp -implicitDefEqProofs only [SD, SF, SL, e_nf, reduceCtorEq, implies_true, ↓reduceIte, Nat.reduceEqDiff, Nat.reduceAdd, Nat.reduceMul, Nat.reduceSub, Nat.reduceLeDiff, Nat.reduceLT, Int.reduceLT, Int.reduceLE, Int.reduceEq, Int.reduceToNat, Int.reduceAdd, Int.reduceSub, Int.reduceNeg, Int.reduceBEq, Int.reduceBNe, Nat.reduceBEq, Int.cast_ofNat_Int, decide_true, decide_false, ne_eq, eq_self_iff_true, beq_eq_false_iff_ne, bne_iff_ne, List.replicate, encEv, encFl, *] <;> simp_all <;> done))
              | (have := hv1; have := hY; (with_reducible refine back_in rest1.length [9, 10, 12, 13, 14, 15, 16, 17, 18, 19, 20, 21, 22, 23, 24, 25, 26, 27, 28, 29, 30, 31, 32, 33, 34, 35, 36, 37, 38, 39, 40, 41, 42, 43, 44, 45, 46, 47, 48, 49, 50, 51, 52, 53, 54, 55, 56, 57] [56] (pre1 ++ [x1], rest1, (DV.ow 57, [(57, Blk.vec 41 29 ((lazyL f pre1 sh).map encEv ++ [encEv x1]))])) ?_ ⟨?_, ?_, ?_⟩ ?_)
                 · simp
                 · exact cut_snoc he1.out
                 · rfl
                 · first | (left; refine ⟨?_, rfl⟩; rw [hsn, if_neg hN.out]; exact hp0.out) | (right; rw [hsn, if_neg hN.out]) | (right; rw [hsn, if_pos hY.out, hp0.out]; rfl) | (right; rw [hsn, if_pos hY.out, List.map_append]; rfl)
                 · first | (simp -implicitDefEqProofs only [SD, SF, SL, e_nf, reduceCtorEq, implies_true, ↓reduceIte, Nat.reduceEqDiff, Nat.reduceAdd, Nat.reduceMul, Nat.reduceSub, Nat.reduceLeDiff, Nat.reduceLT, Int.reduceLT, Int.reduceLE, Int.reduceEq, Int.reduceToNat, Int.reduceAdd, Int.reduceSub, Int.reduceNeg, Int.reduceBEq, Int.reduceBNe, Nat.reduceBEq, Int.cast_ofNat_Int, decide_true, decide_false, ne_eq, eq_self_iff_true, beq_eq_false_iff_ne, bne_iff_ne, List.replicate, encEv, encFl] <;> simp <;> done) | (simp -implicitDefEqProofs only [SD, SF, SL, e_nf, reduceCtorEq, implies_true, ↓reduceIte, Nat.reduceEqDiff, Nat.reduceAdd, Nat.reduceMul, Nat.reduceSub, Nat.reduceLeDiff, Nat.reduceLT, Int.reduceLT, Int.reduceLE, Int.reduceEq, Int.reduceToNat, Int.reduceAdd, Int.reduceSub, Int.reduceNeg, Int.reduceBEq, Int.reduceBNe, Nat.reduceBEq, Int.cast_ofNat_Int, decide_true, decide_false, ne_eq, eq_self_iff_true, beq_eq_false_iff_ne, bne_iff_ne, List.replicate, encEv, encFl, *] <;> simp_all <;> done))
              | (have := hp0; have := hY; (with_reducible refine back_in rest1.length [9, 10, 12, 13, 14, 15, 16, 17, 18, 19, 20, 21, 22, 23, 24, 25, 26, 27, 28, 29, 30, 31, 32, 33, 34, 35, 36, 37, 38, 39, 40, 41, 42, 43, 44, 45, 46, 47, 48, 49, 50, 51, 52, 53, 54, 55, 56, 57] [56] (pre1 ++ [x1], rest1, (DV.ow 57, [(57, Blk.vec 41 29 ([encEv x1]))])) ?_ ⟨?_, ?_, ?_⟩ ?_)
                 · simp
                 · exact cut_snoc he1.out
                 · rfl
                 · first | (left; refine ⟨?_, rfl⟩; rw [hsn, if_neg hN.out]; exact hp0.out) | (right; rw [hsn, if_neg hN.out]) | (right; rw [hsn, if_pos hY.out, hp0.out]; rfl) | (right; rw [hsn, if_pos hY.out, List.map_append]; rfl)
                 · first | (simp -implicitDefEqProofs only [SD, SF, SL, e_nf, reduceCtorEq, implies_true, ↓reduceIte, Nat.reduceEqDiff, Nat.reduceAdd, Nat.reduceMul, Nat.reduceSub, Nat.reduceLeDiff, Nat.reduceLT, Int.reduceLT, Int.reduceLE, Int.reduceEq, Int.reduceToNat, Int.reduceAdd, Int.reduceSub, Int.reduceNeg, Int.reduceBEq, Int.reduceBNe, Nat.reduceBEq, Int.cast_ofNat_Int, decide_true, decide_false, ne_eq, eq_self_iff_true, beq_eq_false_iff_ne, bne_iff_ne, List.replicate, encEv, encFl] <;> simp <;> done) | (simp -implicitDefEqProofs only [SD, SF, SL, e_nf, reduceCtorEq, implies_true, ↓reduceIte, Nat.reduceEqDiff, Nat.reduceAdd, Nat.reduceMul, Nat.reduceSub, Nat.reduceLeDiff, Nat.reduceLT, Int.reduceLT, Int.reduceLE, Int.reduceEq, Int.reduceToNat, Int.reduceAdd, Int.reduceSub, Int.reduceNeg, Int.reduceBEq, Int.reduceBNe, Nat.reduceBEq, Int.cast_ofNat_Int, decide_true, decide_false, ne_eq, eq_self_iff_true, beq_eq_false_iff_ne, bne_iff_ne, List.replicate, encEv, encFl, *] <;> simp_all <;> done))
              | (with_reducible refine ite_in (fun _ => ?_) (fun _ => ?_))
              | (with_reducible refine ⟨fun _ => ?_, fun _ => ?_⟩)
              | (with_reducible refine And.intro ?_ ?_)
              | (with_reducible intro _)
              | (with_reducible exact is_in _)
              | (simp -implicitDefEqProofs only [SD, SF, SL, e_nf, reduceCtorEq, implies_true, ↓reduceIte, Nat.reduceEqDiff, Nat.reduceAdd, Nat.reduceMul, Nat.reduceSub, Nat.reduceLeDiff, Nat.reduceLT, Int.reduceLT, Int.reduceLE, Int.reduceEq, Int.reduceToNat, Int.reduceAdd, Int.reduceSub, Int.reduceNeg, Int.reduceBEq, Int.reduceBNe, Nat.reduceBEq, Int.cast_ofNat_Int, decide_true, decide_false, ne_eq, eq_self_iff_true, beq_eq_false_iff_ne, bne_iff_ne, List.replicate, encEv, encFl, *]))))
            all_goals (first | omega | (simp only [maxLen, List.length_append, List.length_map, List.length_cons, List.length_nil] <;> omega) | (simp_all; done))

          | cons x2 rest2 =>
            have hlt2 := cut_lt he2
            have hx2 := cutD encEv he2
            simp only [encEv] at hx2
            simp -implicitDefEqProofs only [SD, SF, SL, e_nf, reduceCtorEq, implies_true, ↓reduceIte, Nat.reduceEqDiff, Nat.reduceAdd, Nat.reduceMul, Nat.reduceSub, Nat.reduceLeDiff, Nat.reduceLT, Int.reduceLT, Int.reduceLE, Int.reduceEq, Int.reduceToNat, Int.reduceAdd, Int.reduceSub, Int.reduceNeg, Int.reduceBEq, Int.reduceBNe, Nat.reduceBEq, Int.cast_ofNat_Int, decide_true, decide_false, ne_eq, eq_self_iff_true, beq_eq_false_iff_ne, bne_iff_ne, List.replicate, encEv, encFl, hlt2]
            intro hl
            have hw2 := wrap_len (n := pre2.length) (m := (sh).length) (cut_lt' he2) (by simpa using hl)
            replace he2 := Hd.mk he2
            have hq : a2 = true → needB f sh x1 = true := by
              intro h
              rw [hneed.out, he2.out]
              rw [h] at hI2
              first | rfl | (simp at hI2; simp [senB_pre hI2])
            replace hI2 := Hd.mk hI2
            cases a2
            all_goals try (exfalso; have hz := hI2.out; simp at hz; done)
            all_goals rcases hyn with hY | hN
            all_goals try (exfalso; exact hN.out (hq rfl))
            all_goals clear hq
            iterate 60 (all_goals (try (first
              | (have := hp0; have := hN; (with_reducible refine back_in rest1.length [9, 10, 12, 13, 14, 15, 16, 17, 18, 19, 20, 21, 22, 23, 24, 25, 26, 27, 28, 29, 30, 31, 32, 33, 34, 35, 36, 37, 38, 39, 40, 41, 42, 43, 44, 45, 46, 47, 48, 49, 50, 51, 52, 53, 54, 55, 56, 57] [56] (pre1 ++ [x1], rest1, (DV.ow 11, [(11, Blk.vec 41 29 ([]))])) ?_ ⟨?_, ?_, ?_⟩ ?_)
                 · simp
                 · exact cut_snoc he1.out
                 · rfl
                 · first | (left; refine ⟨?_, rfl⟩; rw [hsn, if_neg hN.out]; exact hp0.out) | (right; rw [hsn, if_neg hN.out]) | (right; rw [hsn, if_pos hY.out, hp0.out]; rfl) | (right; rw [hsn, if_pos hY.out, List.map_append]; rfl)
                 · first | (simp -implicitDefEqProofs only [SD, SF, SL, e_nf, reduceCtorEq, implies_true, ↓reduceIte, Nat.reduceEqDiff, Nat.reduceAdd, Nat.reduceMul, Nat.reduceSub, Nat.reduceLeDiff, Nat.reduceLT, Int.reduceLT, Int.reduceLE, Int.reduceEq, Int.reduceToNat, Int.reduceAdd, Int.reduceSub, Int.reduceNeg, Int.reduceBEq, Int.reduceBNe, Nat.reduceBEq, Int.cast_ofNat_Int, decide_true, decide_false, ne_eq, eq_self_iff_true, beq_eq_false_iff_ne, bne_iff_ne, List.replicate, encEv, encFl] <;> simp <;> done) | (simp -implicitDefEqProofs only [SD, SF, SL, e_nf, reduceCtorEq, implies_true, ↓reduceIte, Nat.reduceEqDiff, Nat.reduceAdd, Nat.reduceMul, Nat.reduceSub, Nat.reduceLeDiff, Nat.reduceLT, Int.reduceLT, Int.reduceLE, Int.reduceEq, Int.reduceToNat, Int.reduceAdd, Int.reduceSub, Int.reduceNeg, Int.reduceBEq, Int.reduceBNe, Nat.reduceBEq, Int.cast_ofNat_Int, decide_true, decide_false, ne_eq, eq_self_iff_true, beq_eq_false_iff_ne, bne_iff_ne, List.replicate, encEv, encFl, *] <;> simp_all <;> done))
              | (have := hv1; have := hN; (with_reducible refine back_in rest1.length [9, 10, 12, 13, 14, 15, 16, 17, 18, 19, 20, 21, 22, 23, 24, 25, 26, 27, 28, 29, 30, 31, 32, 33, 34, 35, 36, 37, 38, 39, 40, 41, 42, 43, 44, 45, 46, 47, 48, 49, 50, 51, 52, 53, 54, 55, 56, 57] [56] (pre1 ++ [x1], rest1, (DV.ow 57, [(57, Blk.vec 41 29 ((lazyL f pre1 sh).map encEv))])) ?_ ⟨?_, ?_, ?_⟩ ?_)
                 · simp
                 · exact cut_snoc he1.out
                 · rfl
                 · first | (left; refine ⟨?_, rfl⟩; rw [hsn, if_neg hN.out]; exact hp0.out) | (right; rw [hsn, if_neg hN.out]) | (right; rw [hsn, if_pos hY.out, hp0.out]; rfl) | (right; rw [hsn, if_pos hY.out, List.map_append]; rfl)
                 · first | (simp -implicitDefEqProofs only [SD, SF, SL, e_nf, reduceCtorEq, implies_true, ↓reduceIte, Nat.reduceEqDiff, Nat.reduceAdd, Nat.reduceMul, Nat.reduceSub, Nat.reduceLeDiff, Nat.reduceLT, Int.reduceLT, Int.reduceLE, Int.reduceEq, Int.reduceToNat, Int.reduceAdd, Int.reduceSub, Int.reduceNeg, Int.reduceBEq, Int.reduceBNe, Nat.reduceBEq, Int.cast_ofNat_Int, decide_true, decide_false, ne_eq, eq_self_iff_true, beq_eq_false_iff_ne, bne_iff_ne, List.replicate, encEv, encFl] <;> simp <;> done) | (simp -implicitDefEqProofs only [SD, SF, SL, e_nf, reduceCtorEq, implies_true, ↓reduceIte, Nat.reduceEqDiff, Nat.reduceAdd, Nat.reduceMul, Nat.reduceSub, Nat.reduceLeDiff, Nat.reduceLT, Int.reduceLT, Int.reduceLE, Int.reduceEq, Int.reduceToNat, Int.reduceAdd, Int.reduceSub, Int.reduceNeg, Int.reduceBEq, Int.reduceBNe, Nat.reduceBEq, Int.cast_ofNat_Int, decide_true, decide_false, ne_eq, eq_self_iff_true, beq_eq_false_iff_ne, bne_iff_ne, List.replicate, encEv, encFl, *] <;> simp_all <;> done))
              | (have := hv1; have := hY; (with_reducible refine back_in rest1.length [9, 10, 12, 13, 14, 15, 16, 17, 18, 19, 20, 21, 22, 23, 24, 25, 26, 27, 28, 29, 30, 31, 32, 33, 34, 35, 36, 37, 38, 39, 40, 41, 42, 43, 44, 45, 46, 47, 48, 49, 50, 51, 52, 53, 54, 55, 56, 57] [56] (pre1 ++ [x1], rest1, (DV.ow 57, [(57, Blk.vec 41 29 ((lazyL f pre1 sh).map encEv ++ [encEv x1]))])) ?_ ⟨?_, ?_, ?_⟩ ?_)
                 · simp
                 · exact cut_snoc he1.out
                 · rfl
                 · first | (left; refine ⟨?_, rfl⟩; rw [hsn, if_neg hN.out]; exact hp0.out) | (right; rw [hsn, if_neg hN.out]) | (right; rw [hsn, if_pos hY.out, hp0.out]; rfl) | (right; rw [hsn, if_pos hY.out, List.map_append]; rfl)
                 · first | (simp -implicitDefEqProofs only [SD, SF, SL, e_nf, reduceCtorEq, implies_true, ↓reduceIte, Nat.reduceEqDiff, Nat.reduceAdd, Nat.reduceMul, Nat.reduceSub, Nat.reduceLeDiff, Nat.reduceLT, Int.reduceLT, Int.reduceLE, Int.reduceEq, Int.reduceToNat, Int.reduceAdd, Int.reduceSub, Int.reduceNeg, Int.reduceBEq, Int.reduceBNe, Nat.reduceBEq, Int.cast_ofNat_Int, decide_true, decide_false, ne_eq, eq_self_iff_true, beq_eq_false_iff_ne, bne_iff_ne, List.replicate, encEv, encFl] <;> simp <;> done) | (simp -implicitDefEqProofs only [SD, SF, SL, e_nf, reduceCtorEq, implies_true, ↓reduceIte, Nat.reduceEqDiff, Nat.reduceAdd, Nat.reduceMul, Nat.reduceSub, Nat.reduceLeDiff, Nat.reduceLT, Int.reduceLT, Int.reduceLE, Int.reduceEq, Int.reduceToNat, Int.reduceAdd, Int.reduceSub, Int.reduceNeg, Int.reduceBEq, Int.reduceBNe, Nat.reduceBEq, Int.cast_ofNat_Int, decide_true, decide_false, ne_eq, eq_self_iff_true, beq_eq_false_iff_ne, bne_iff_ne, List.replicate, encEv, encFl, *] <;> simp_all <;> done))
              | (have := hp0; have := hY; (with_reducible refine back_in rest1.length [9, 10, 12, 13, 14, 15, 16, 17, 18, 19, 20, 21, 22, 23, 24, 25, 26, 27, 28, 29, 30, 31, 32, 33, 34, 35, 36, 37, 38, 39, 40, 41, 42, 43, 44, 45, 46, 47, 48, 49, 50, 51, 52, 53, 54, 55, 56, 57] [56] (pre1 ++ [x1], rest1, (DV.ow 57, [(57, Blk.vec 41 29 ([encEv x1]))])) ?_ ⟨?_, ?_, ?_⟩ ?_)
                 · simp
                 · exact cut_snoc he1.out
                 · rfl
                 · first | (left; refine ⟨?_, rfl⟩; rw [hsn, if_neg hN.out]; exact hp0.out) | (right; rw [hsn, if_neg hN.out]) | (right; rw [hsn, if_pos hY.out, hp0.out]; rfl) | (right; rw [hsn, if_pos hY.out, List.map_append]; rfl)
                 · first | (simp -implicitDefEqProofs only [SD, SF, SL, e_nf, reduceCtorEq, implies_true, ↓reduceIte, Nat.reduceEqDiff, Nat.reduceAdd, Nat.reduceMul, Nat.reduceSub, Nat.reduceLeDiff, Nat.reduceLT, Int.reduceLT, Int.reduceLE, Int.reduceEq, Int.reduceToNat, Int.reduceAdd, Int.reduceSub, Int.reduceNeg, Int.reduceBEq, Int.reduceBNe, Nat.reduceBEq, Int.cast_ofNat_Int, decide_true, decide_false, ne_eq, eq_self_iff_true, beq_eq_false_iff_ne, bne_iff_ne, List.replicate, encEv, encFl] <;> simp <;> done) | (simp -implicitDefEqProofs only [SD, SF, SL, e_nf, reduceCtorEq, implies_true, ↓reduceIte, Nat.reduceEqDiff, Nat.reduceAdd, Nat.reduceMul, Nat.reduceSub, Nat.reduceLeDiff, Nat.reduceLT, Int.reduceLT, Int.reduceLE, Int.reduceEq, Int.reduceToNat, Int.reduceAdd, Int.reduceSub, Int.reduceNeg, Int.reduceBEq, Int.reduceBNe, Nat.reduceBEq, Int.cast_ofNat_Int, decide_true, decide_false, ne_eq, eq_self_iff_true, beq_eq_false_iff_ne, bne_iff_ne, List.replicate, encEv, encFl, *] <;> simp_all <;> done))
              | ((with_reducible refine back_in rest2.length [29, 30, 31, 32, 33, 34, 35, 36, 37, 38, 39, 40, 41, 42, 43, 44, 45, 46, 47, 48, 49] [] (pre2 ++ [x2], rest2, decide (x2.sender = x1.key)) ?_ ⟨?_, ?_, ?_⟩ ?_)
                 · simp
                 · exact cut_snoc he2.out
                 · rfl
                 · first | rfl | simp
                 · first | (simp -implicitDefEqProofs only [SD, SF, SL, e_nf, reduceCtorEq, implies_true, ↓reduceIte, Nat.reduceEqDiff, Nat.reduceAdd, Nat.reduceMul, Nat.reduceSub, Nat.reduceLeDiff, Nat.reduceLT, Int.reduceLT, Int.reduceLE, Int.reduceEq, Int.reduceToNat, Int.reduceAdd, Int.reduceSub, Int.reduceNeg, Int.reduceBEq, Int.reduceBNe, Nat.reduceBEq, Int.cast_ofNat_Int, decide_true, decide_false, ne_eq, eq_self_iff_true, beq_eq_false_iff_ne, bne_iff_ne, List.replicate, encEv, encFl] <;> simp <;> done) | (simp -implicitDefEqProofs only [SD, SF, SL, e_nf, reduceCtorEq, implies_true, ↓reduceIte, Nat.reduceEqDiff, Nat.reduceAdd, Nat.reduceMul, Nat.reduceSub, Nat.reduceLeDiff, Nat.reduceLT, Int.reduceLT, Int.reduceLE, Int.reduceEq, Int.reduceToNat, Int.reduceAdd, Int.reduceSub, Int.reduceNeg, Int.reduceBEq, Int.reduceBNe, Nat.reduceBEq, Int.cast_ofNat_Int, decide_true, decide_false, ne_eq, eq_self_iff_true, beq_eq_false_iff_ne, bne_iff_ne, List.replicate, encEv, encFl, *] <;> simp_all <;> done))
              | (with_reducible refine ite_in (fun _ => ?_) (fun _ => ?_))
              | (with_reducible refine ⟨fun _ => ?_, fun _ => ?_⟩)
              | (with_reducible refine And.intro ?_ ?_)
              | (with_reducible intro _)
              | (with_reducible exact is_in _)
              | (simp -implicitDefEqProofs only [SD, SF, SL, e_nf, reduceCtorEq, implies_true, ↓reduceIte, Nat.reduceEqDiff, Nat.reduceAdd, Nat.reduceMul, Nat.reduceSub, Nat.reduceLeDiff, Nat.reduceLT, Int.reduceLT, Int.reduceLE, Int.reduceEq, Int.reduceToNat, Int.reduceAdd, Int.reduceSub, Int.reduceNeg, Int.reduceBEq, Int.reduceBNe, Nat.reduceBEq, Int.cast_ofNat_Int, decide_true, decide_false, ne_eq, eq_self_iff_true, beq_eq_false_iff_ne, bne_iff_ne, List.replicate, encEv, encFl, *]))))
            all_goals (first | omega | (simp only [maxLen, List.length_append, List.length_map, List.length_cons, List.length_nil] <;> omega) | (simp_all; done))
      · have hv1 : True := trivial
        have hneed : Hd (needB f sh x1 = (true || senB sh x1.key)) := Hd.mk (by simp [needB, h1, h2])
        iterate 10 (all_goals (try (first
          | (with_reducible refine ite_in (fun _ => ?_) (fun _ => ?_))
          | (with_reducible refine ⟨fun _ => ?_, fun _ => ?_⟩)
          | (with_reducible refine And.intro ?_ ?_)
          | (with_reducible intro _)
          | (with_reducible exact is_in _)
          | (simp -implicitDefEqProofs only [SD, SF, SL, e_nf, reduceCtorEq, implies_true, ↓reduceIte, Nat.reduceEqDiff, Nat.reduceAdd, Nat.reduceMul, Nat.reduceSub, Nat.reduceLeDiff, Nat.reduceLT, Int.reduceLT, Int.reduceLE, Int.reduceEq, Int.reduceToNat, Int.reduceAdd, Int.reduceSub, Int.reduceNeg, Int.reduceBEq, Int.reduceBNe, Nat.reduceBEq, Int.cast_ofNat_Int, decide_true, decide_false, ne_eq, eq_self_iff_true, beq_eq_false_iff_ne, bne_iff_ne, List.replicate, encEv, encFl, *]))))
        refine loop_q (X := List Ev × List Ev × Bool) (fun n x => sh = x.1 ++ x.2.1 ∧ n = x.2.1.length ∧ (x.2.2 = (true || senB x.1 x1.key))) (fun x => [(10, .int .i64 x.1.length), (9, .bool x.2.2)]) (fun _ => []) [29, 30, 31, 32, 33, 34, 35, 36, 37, 38, 39, 40, 41, 42, 43, 44, 45, 46, 47, 48, 49] []  (sh).length ([], sh, true) ⟨rfl, rfl, by rfl⟩ ?_ ?_
        · simp -implicitDefEqProofs only [SD, SF, SL, e_nf, reduceCtorEq, implies_true, ↓reduceIte, Nat.reduceEqDiff, Nat.reduceAdd, Nat.reduceMul, Nat.reduceSub, Nat.reduceLeDiff, Nat.reduceLT, Int.reduceLT, Int.reduceLE, Int.reduceEq, Int.reduceToNat, Int.reduceAdd, Int.reduceSub, Int.reduceNeg, Int.reduceBEq, Int.reduceBNe, Nat.reduceBEq, Int.cast_ofNat_Int, decide_true, decide_false, ne_eq, eq_self_iff_true, beq_eq_false_iff_ne, bne_iff_ne, List.replicate, encEv, encFl] <;> simp
        · rintro n ⟨pre2, rest2, a2⟩ ⟨he2, rfl, hI2⟩
          dsimp only at he2 hI2
          cases rest2 with
          | nil =>
            obtain rfl : sh = pre2 := by simpa using he2
            clear he2
            have hlt2 : ¬ (((sh).length : Int) < ((sh).length : Int)) := Int.lt_irrefl _
            have hq : needB f sh x1 = a2 := by rw [hneed.out]; exact hI2.symm
            clear hI2
            cases a2
            all_goals rcases hyn with hY | hN
            all_goals try (exfalso; first | exact hN.out hq | exact Bool.noConfusion (hq.symm.trans hY.out))
            all_goals clear hq
            iterate 60 (all_goals (try (first
              | (have := hp0; have := hN; (with_reducible refine back_in rest1.length [9, 10, 12, 13, 14, 15, 16, 17, 18, 19, 20, 21, 22, 23, 24, 25, 26, 27, 28, 29, 30, 31, 32, 33, 34, 35, 36, 37, 38, 39, 40, 41, 42, 43, 44, 45, 46, 47, 48, 49, 50, 51, 52, 53, 54, 55, 56, 57] [56] (pre1 ++ [x1], rest1, (DV.ow 11, [(11, Blk.vec 41 29 ([]))])) ?_ ⟨?_, ?_, ?_⟩ ?_)
                 · simp
                 · exact cut_snoc he1.out
                 · rfl
                 · first | (left; refine ⟨?_, rfl⟩; rw [hsn, if_neg hN.out]; exact hp0.out) | (right; rw [hsn, if_neg hN.out]) | (right; rw [hsn, if_pos hY.out, hp0.out]; rfl) | (right; rw [hsn, if_pos hY.out, List.map_append]; rfl)
                 · first | (simp -implicitDefEqProofs only [SD, SF, SL, e_nf, reduceCtorEq, implies_true, ↓reduceIte, Nat.reduceEqDiff, Nat.reduceAdd, Nat.reduceMul, Nat.reduceSub, Nat.reduceLeDiff, Nat.reduceLT, Int.reduceLT, Int.reduceLE, Int.reduceEq, Int.reduceToNat, Int.reduceAdd, Int.reduceSub, Int.reduceNeg, Int.reduceBEq, Int.reduceBNe, Nat.reduceBEq, Int.cast_ofNat_Int, decide_true, decide_false, ne_eq, eq_self_iff_true, beq_eq_false_iff_ne, bne_iff_ne, List.replicate, encEv, encFl] <;> simp <;> done) | (simp -implicitDefEqProofs only [SD, SF, SL, e_nf, reduceCtorEq, implies_true, ↓reduceIte, Nat.reduceEqDiff, Nat.reduceAdd, Nat.reduceMul, Nat.reduceSub, Nat.reduceLeDiff, Nat.reduceLT, Int.reduceLT, Int.reduceLE, Int.reduceEq, Int.reduceToNat, Int.reduceAdd, Int.reduceSub, Int.reduceNeg, Int.reduceBEq, Int.reduceBNe, Nat.reduceBEq, Int.cast_ofNat_Int, decide_true, decide_false, ne_eq, eq_self_iff_true, beq_eq_false_iff_ne, bne_iff_ne, List.replicate, encEv, encFl, *] <;> simp_all <;> done))
              | (have := hv1; have := hN; (with_reducible refine back_in rest1.length [9, 10, 12, 13, 14, 15, 16, 17, 18, 19, 20, 21, 22, 23, 24, 25, 26, 27, 28, 29, 30, 31, 32, 33, 34, 35, 36, 37, 38, 39, 40, 41, 42, 43, 44, 45, 46, 47, 48, 49, 50, 51, 52, 53, 54, 55, 56, 57] [56] (pre1 ++ [x1], rest1, (DV.ow 57, [(57, Blk.vec 41 29 ((lazyL f pre1 sh).map encEv))])) ?_ ⟨?_, ?_, ?_⟩ ?_)
                 · simp
                 · exact cut_snoc he1.out
                 · rfl
                 · first | (left; refine ⟨?_, rfl⟩; rw [hsn, if_neg hN.out]; exact hp0.out) | (right; rw [hsn, if_neg hN.out]) | (right; rw [hsn, if_pos hY.out, hp0.out]; rfl) | (right; rw [hsn, if_pos hY.out, List.map_append]; rfl)
                 · first | (simp -implicitDefEqProofs only [SD, SF, SL, e_nf, reduceCtorEq, implies_true, ↓reduceIte, Nat.reduceEqDiff, Nat.reduceAdd, Nat.reduceMul, Nat.reduceSub, Nat.reduceLeDiff, Nat.reduceLT, Int.reduceLT, Int.reduceLE, Int.reduceEq, Int.reduceToNat, Int.reduceAdd, Int.reduceSub, Int.reduceNeg, Int.reduceBEq, Int.reduceBNe, Nat.reduceBEq, Int.cast_ofNat_Int, decide_true, decide_false, ne_eq, eq_self_iff_true, beq_eq_false_iff_ne, bne_iff_ne, List.replicate, encEv, encFl] <;> simp <;> done) | (simp -implicitDefEqProofs only [SD, SF, SL, e_nf, reduceCtorEq, implies_true, ↓reduceIte, Nat.reduceEqDiff, Nat.reduceAdd, Nat.reduceMul, Nat.reduceSub, Nat.reduceLeDiff, Nat.reduceLT, Int.reduceLT, Int.reduceLE, Int.reduceEq, Int.reduceToNat, Int.reduceAdd, Int.reduceSub, Int.reduceNeg, Int.reduceBEq, Int.reduceBNe, Nat.reduceBEq, Int.cast_ofNat_Int, decide_true, decide_false, ne_eq, eq_self_iff_true, beq_eq_false_iff_ne, bne_iff_ne, List.replicate, encEv, encFl, *] <;> simp_all <;> done))
              | (have := hv1; have := hY; (with_reducible refine back_in rest1.length [9, 10, 12, 13, 14, 15, 16, 17, 18, 19, 20, 21, 22, 23, 24, 25, 26, 27, 28, 29, 30, 31, 32, 33, 34, 35, 36, 37, 38, 39, 40, 41, 42, 43, 44, 45, 46, 47, 48, 49, 50, 51, 52, 53, 54, 55, 56, 57] [56] (pre1 ++ [x1], rest1, (DV.ow 57, [(57, Blk.vec 41 29 ((lazyL f pre1 sh).map encEv ++ [encEv x1]))])) ?_ ⟨?_, ?_, ?_⟩ ?_)
                 · simp
                 · exact cut_snoc he1.out
                 · rfl
                 · first | (left; refine ⟨?_, rfl⟩; rw [hsn, if_neg hN.out]; exact hp0.out) | (right; rw [hsn, if_neg hN.out]) | (right; rw [hsn, if_pos hY.out, hp0.out]; rfl) | (right; rw [hsn, if_pos hY.out, List.map_append]; rfl)
                 · first | (simp -implicitDefEqProofs only [SD, SF, SL, e_nf, reduceCtorEq, implies_true, ↓reduceIte, Nat.reduceEqDiff, Nat.reduceAdd, Nat.reduceMul, Nat.reduceSub, Nat.reduceLeDiff, Nat.reduceLT, Int.reduceLT, Int.reduceLE, Int.reduceEq, Int.reduceToNat, Int.reduceAdd, Int.reduceSub, Int.reduceNeg, Int.reduceBEq, Int.reduceBNe, Nat.reduceBEq, Int.cast_ofNat_Int, decide_true, decide_false, ne_eq, eq_self_iff_true, beq_eq_false_iff_ne, bne_iff_ne, List.replicate, encEv, encFl] <;> simp <;> done) | (simp -implicitDefEqProofs only [SD, SF, SL, e_nf, reduceCtorEq, implies_true, ↓reduceIte, Nat.reduceEqDiff, Nat.reduceAdd, Nat.reduceMul, Nat.reduceSub, Nat.reduceLeDiff, Nat.reduceLT, Int.reduceLT, Int.reduceLE, Int.reduceEq, Int.reduceToNat, Int.reduceAdd, Int.reduceSub, Int.reduceNeg, Int.reduceBEq, Int.reduceBNe, Nat.reduceBEq, Int.cast_ofNat_Int, decide_true, decide_false, ne_eq, eq_self_iff_true, beq_eq_false_iff_ne, bne_iff_ne, List.replicate, encEv, encFl, *] <;> simp_all <;> done))
              | (have := hp0; have := hY; (with_reducible refine back_in rest1.length [9, 10, 12, 13, 14, 15, 16, 17, 18, 19, 20, 21, 22, 23, 24, 25, 26, 27, 28, 29, 30, 31, 32, 33, 34, 35, 36, 37, 38, 39, 40, 41, 42, 43, 44, 45, 46, 47, 48, 49, 50, 51, 52, 53, 54, 55, 56, 57] [56] (pre1 ++ [x1], rest1, (DV.ow 57, [(57, Blk.vec 41 29 ([encEv x1]))])) ?_ ⟨?_, ?_, ?_⟩ ?_)
                 · simp
                 · exact cut_snoc he1.out
                 · rfl
                 · first | (left; refine ⟨?_, rfl⟩; rw [hsn, if_neg hN.out]; exact hp0.out) | (right; rw [hsn, if_neg hN.out]) | (right; rw [hsn, if_pos hY.out, hp0.out]; rfl) | (right; rw [hsn, if_pos hY.out, List.map_append]; rfl)
                 · first | (simp -implicitDefEqProofs only [SD, SF, SL, e_nf, reduceCtorEq, implies_true, ↓reduceIte, Nat.reduceEqDiff, Nat.reduceAdd, Nat.reduceMul, Nat.reduceSub, Nat.reduceLeDiff, Nat.reduceLT, Int.reduceLT, Int.reduceLE, Int.reduceEq, Int.reduceToNat, Int.reduceAdd, Int.reduceSub, Int.reduceNeg, Int.reduceBEq, Int.reduceBNe, Nat.reduceBEq, Int.cast_ofNat_Int, decide_true, decide_false, ne_eq, eq_self_iff_true, beq_eq_false_iff_ne, bne_iff_ne, List.replicate, encEv, encFl] <;> simp <;> done) | (simp -implicitDefEqProofs only [SD, SF, SL, e_nf, reduceCtorEq, implies_true, ↓reduceIte, Nat.reduceEqDiff, Nat.reduceAdd, Nat.reduceMul, Nat.reduceSub, Nat.reduceLeDiff, Nat.reduceLT, Int.reduceLT, Int.reduceLE, Int.reduceEq, Int.reduceToNat, Int.reduceAdd, Int.reduceSub, Int.reduceNeg, Int.reduceBEq, Int.reduceBNe, Nat.reduceBEq, Int.cast_ofNat_Int, decide_true, decide_false, ne_eq, eq_self_iff_true, beq_eq_false_iff_ne, bne_iff_ne, List.replicate, encEv, encFl, *] <;> simp_all <;> done))
              | (with_reducible refine ite_in (fun _ => ?_) (fun _ => ?_))
              | (with_reducible refine ⟨fun _ => ?_, fun _ => ?_⟩)
              | (with_reducible refine And.intro ?_ ?_)
              | (with_reducible intro _)
              | (with_reducible exact is_in _)
              | (simp -implicitDefEqProofs only [SD, SF, SL, e_nf, reduceCtorEq, implies_true, ↓reduceIte, Nat.reduceEqDiff, Nat.reduceAdd, Nat.reduceMul, Nat.reduceSub, Nat.reduceLeDiff, Nat.reduceLT, Int.reduceLT, Int.reduceLE, Int.reduceEq, Int.reduceToNat, Int.reduceAdd, Int.reduceSub, Int.reduceNeg, Int.reduceBEq, Int.reduceBNe, Nat.reduceBEq, Int.cast_ofNat_Int, decide_true, decide_false, ne_eq, eq_self_iff_true, beq_eq_false_iff_ne, bne_iff_ne, List.replicate, encEv, encFl, *]))))
            all_goals (first | omega | (simp only [maxLen, List.length_append, List.length_map, List.length_cons, List.length_nil] <;> omega) | (simp_all; done))

          | cons x2 rest2 =>
            have hlt2 := cut_lt he2
            have hx2 := cutD encEv he2
            simp only [encEv] at hx2
            simp -implicitDefEqProofs only [SD, SF, SL, e_nf, reduceCtorEq, implies_true, ↓reduceIte, Nat.reduceEqDiff, Nat.reduceAdd, Nat.reduceMul, Nat.reduceSub, Nat.reduceLeDiff, Nat.reduceLT, Int.reduceLT, Int.reduceLE, Int.reduceEq, Int.reduceToNat, Int.reduceAdd, Int.reduceSub, Int.reduceNeg, Int.reduceBEq, Int.reduceBNe, Nat.reduceBEq, Int.cast_ofNat_Int, decide_true, decide_false, ne_eq, eq_self_iff_true, beq_eq_false_iff_ne, bne_iff_ne, List.replicate, encEv, encFl, hlt2]
            intro hl
            have hw2 := wrap_len (n := pre2.length) (m := (sh).length) (cut_lt' he2) (by simpa using hl)
            replace he2 := Hd.mk he2
            have hq : a2 = true → needB f sh x1 = true := by
              intro h
              rw [hneed.out, he2.out]
              rw [h] at hI2
              first | rfl | (simp at hI2; simp [senB_pre hI2])
            replace hI2 := Hd.mk hI2
            cases a2
            all_goals try (exfalso; have hz := hI2.out; simp at hz; done)
            all_goals rcases hyn with hY | hN
            all_goals try (exfalso; exact hN.out (hq rfl))
            all_goals clear hq
            iterate 60 (all_goals (try (first
              | (have := hp0; have := hN; (with_reducible refine back_in rest1.length [9, 10, 12, 13, 14, 15, 16, 17, 18, 19, 20, 21, 22, 23, 24, 25, 26, 27, 28, 29, 30, 31, 32, 33, 34, 35, 36, 37, 38, 39, 40, 41, 42, 43, 44, 45, 46, 47, 48, 49, 50, 51, 52, 53, 54, 55, 56, 57] [56] (pre1 ++ [x1], rest1, (DV.ow 11, [(11, Blk.vec 41 29 ([]))])) ?_ ⟨?_, ?_, ?_⟩ ?_)
                 · simp
                 · exact cut_snoc he1.out
                 · rfl
                 · first | (left; refine ⟨?_, rfl⟩; rw [hsn, if_neg hN.out]; exact hp0.out) | (right; rw [hsn, if_neg hN.out]) | (right; rw [hsn, if_pos hY.out, hp0.out]; rfl) | (right; rw [hsn, if_pos hY.out, List.map_append]; rfl)
                 · first | (simp -implicitDefEqProofs only [SD, SF, SL, e_nf, reduceCtorEq, implies_true, ↓reduceIte, Nat.reduceEqDiff, Nat.reduceAdd, Nat.reduceMul, Nat.reduceSub, Nat.reduceLeDiff, Nat.reduceLT, Int.reduceLT, Int.reduceLE, Int.reduceEq, Int.reduceToNat, Int.reduceAdd, Int.reduceSub, Int.reduceNeg, Int.reduceBEq, Int.reduceBNe, Nat.reduceBEq, Int.cast_ofNat_Int, decide_true, decide_false, ne_eq, eq_self_iff_true, beq_eq_false_iff_ne, bne_iff_ne, List.replicate, encEv, encFl] <;> simp <;> done) | (simp -implicitDefEqProofs only [SD, SF, SL, e_nf, reduceCtorEq, implies_true, ↓reduceIte, Nat.reduceEqDiff, Nat.reduceAdd, Nat.reduceMul, Nat.reduceSub, Nat.reduceLeDiff, Nat.reduceLT, Int.reduceLT, Int.reduceLE, Int.reduceEq, Int.reduceToNat, Int.reduceAdd, Int.reduceSub, Int.reduceNeg, Int.reduceBEq, Int.reduceBNe, Nat.reduceBEq, Int.cast_ofNat_Int, decide_true, decide_false, ne_eq, eq_self_iff_true, beq_eq_false_iff_ne, bne_iff_ne, List.replicate, encEv, encFl, *] <;> simp_all <;> done))
              | (have := hv1; have := hN; (with_reducible refine back_in rest1.length [9, 10, 12, 13, 14, 15, 16, 17, 18, 19, 20, 21, 22, 23, 24, 25, 26, 27, 28, 29, 30, 31, 32, 33, 34, 35, 36, 37, 38, 39, 40, 41, 42, 43, 44, 45, 46, 47, 48, 49, 50, 51, 52, 53, 54, 55, 56, 57] [56] (pre1 ++ [x1], rest1, (DV.ow 57, [(57, Blk.vec 41 29 ((lazyL f pre1 sh).map encEv))])) ?_ ⟨?_, ?_, ?_⟩ ?_)
                 · simp
                 · exact cut_snoc he1.out
                 · rfl
                 · first | (left; refine ⟨?_, rfl⟩; rw [hsn, if_neg hN.out]; exact hp0.out) | (right; rw [hsn, if_neg hN.out]) | (right; rw [hsn, if_pos hY.out, hp0.out]; rfl) | (right; rw [hsn, if_pos hY.out, List.map_append]; rfl)
                 · first | (simp -implicitDefEqProofs only [SD, SF, SL, e_nf, reduceCtorEq, implies_true, ↓reduceIte, Nat.reduceEqDiff, Nat.reduceAdd, Nat.reduceMul, Nat.reduceSub, Nat.reduceLeDiff, Nat.reduceLT, Int.reduceLT, Int.reduceLE, Int.reduceEq, Int.reduceToNat, Int.reduceAdd, Int.reduceSub, Int.reduceNeg, Int.reduceBEq, Int.reduceBNe, Nat.reduceBEq, Int.cast_ofNat_Int, decide_true, decide_false, ne_eq, eq_self_iff_true, beq_eq_false_iff_ne, bne_iff_ne, List.replicate, encEv, encFl] <;> simp <;> done) | (simp -implicitDefEqProofs only [SD, SF, SL, e_nf, reduceCtorEq, implies_true, ↓reduceIte, Nat.reduceEqDiff, Nat.reduceAdd, Nat.reduceMul, Nat.reduceSub, Nat.reduceLeDiff, Nat.reduceLT, Int.reduceLT, Int.reduceLE, Int.reduceEq, Int.reduceToNat, Int.reduceAdd, Int.reduceSub, Int.reduceNeg, Int.reduceBEq, Int.reduceBNe, Nat.reduceBEq, Int.cast_ofNat_Int, decide_true, decide_false, ne_eq, eq_self_iff_true, beq_eq_false_iff_ne, bne_iff_ne, List.replicate, encEv, encFl, *] <;> simp_all <;> done))
              | (have := hv1; have := hY; (with_reducible refine back_in rest1.length [9, 10, 12, 13, 14, 15, 16, 17, 18, 19, 20, 21, 22, 23, 24, 25, 26, 27, 28, 29, 30, 31, 32, 33, 34, 35, 36, 37, 38, 39, 40, 41, 42, 43, 44, 45, 46, 47, 48, 49, 50, 51, 52, 53, 54, 55, 56, 57] [56] (pre1 ++ [x1], rest1, (DV.ow 57, [(57, Blk.vec 41 29 ((lazyL f pre1 sh).map encEv ++ [encEv x1]))])) ?_ ⟨?_, ?_, ?_⟩ ?_)
                 · simp
                 · exact cut_snoc he1.out
                 · rfl
                 · first | (left; refine ⟨?_, rfl⟩; rw [hsn, if_neg hN.out]; exact hp0.out) | (right; rw [hsn, if_neg hN.out]) | (right; rw [hsn, if_pos hY.out, hp0.out]; rfl) | (right; rw [hsn, if_pos hY.out, List.map_append]; rfl)
                 · first | (simp -implicitDefEqProofs only [SD, SF, SL, e_nf, reduceCtorEq, implies_true, ↓reduceIte, Nat.reduceEqDiff, Nat.reduceAdd, Nat.reduceMul, Nat.reduceSub, Nat.reduceLeDiff, Nat.reduceLT, Int.reduceLT, Int.reduceLE, Int.reduceEq, Int.reduceToNat, Int.reduceAdd, Int.reduceSub, Int.reduceNeg, Int.reduceBEq, Int.reduceBNe, Nat.reduceBEq, Int.cast_ofNat_Int, decide_true, decide_false, ne_eq, eq_self_iff_true, beq_eq_false_iff_ne, bne_iff_ne, List.replicate, encEv, encFl] <;> simp <;> done) | (simp -implicitDefEqProofs only [SD, SF, SL, e_nf, reduceCtorEq, implies_true, ↓reduceIte, Nat.reduceEqDiff, Nat.reduceAdd, Nat.reduceMul, Nat.reduceSub, Nat.reduceLeDiff, Nat.reduceLT, Int.reduceLT, Int.reduceLE, Int.reduceEq, Int.reduceToNat, Int.reduceAdd, Int.reduceSub, Int.reduceNeg, Int.reduceBEq, Int.reduceBNe, Nat.reduceBEq, Int.cast_ofNat_Int, decide_true, decide_false, ne_eq, eq_self_iff_true, beq_eq_false_iff_ne, bne_iff_ne, List.replicate, encEv, encFl, *] <;> simp_all <;> done))
              | (have := hp0; have := hY; (with_reducible refine back_in rest1.length [9, 10, 12, 13, 14, 15, 16, 17, 18, 19, 20, 21, 22, 23, 24, 25, 26, 27, 28, 29, 30, 31, 32, 33, 34, 35, 36, 37, 38, 39, 40, 41, 42, 43, 44, 45, 46, 47, 48, 49, 50, 51, 52, 53, 54, 55, 56, 57] [56] (pre1 ++ [x1], rest1, (DV.ow 57, [(57, Blk.vec 41 29 ([encEv x1]))])) ?_ ⟨?_, ?_, ?_⟩ ?_)
                 · simp
                 · exact cut_snoc he1.out
                 · rfl
                 · first | (left; refine ⟨?_, rfl⟩; rw [hsn, if_neg hN.out]; exact hp0.out) | (right; rw [hsn, if_neg hN.out]) | (right; rw [hsn, if_pos hY.out, hp0.out]; rfl) | (right; rw [hsn, if_pos hY.out, List.map_append]; rfl)
                 · first | (simp -implicitDefEqProofs only [SD, SF, SL, e_nf, reduceCtorEq, implies_true, ↓reduceIte, Nat.reduceEqDiff, Nat.reduceAdd, Nat.reduceMul, Nat.reduceSub, Nat.reduceLeDiff, Nat.reduceLT, Int.reduceLT, Int.reduceLE, Int.reduceEq, Int.reduceToNat, Int.reduceAdd, Int.reduceSub, Int.reduceNeg, Int.reduceBEq, Int.reduceBNe, Nat.reduceBEq, Int.cast_ofNat_Int, decide_true, decide_false, ne_eq, eq_self_iff_true, beq_eq_false_iff_ne, bne_iff_ne, List.replicate, encEv, encFl] <;> simp <;> done) | (simp -implicitDefEqProofs only [SD, SF, SL, e_nf, reduceCtorEq, implies_true, ↓reduceIte, Nat.reduceEqDiff, Nat.reduceAdd, Nat.reduceMul, Nat.reduceSub, Nat.reduceLeDiff, Nat.reduceLT, Int.reduceLT, Int.reduceLE, Int.reduceEq, Int.reduceToNat, Int.reduceAdd, Int.reduceSub, Int.reduceNeg, Int.reduceBEq, Int.reduceBNe, Nat.reduceBEq, Int.cast_ofNat_Int, decide_true, decide_false, ne_eq, eq_self_iff_true, beq_eq_false_iff_ne, bne_iff_ne, List.replicate, encEv, encFl, *] <;> simp_all <;> done))
              | ((with_reducible refine back_in rest2.length [29, 30, 31, 32, 33, 34, 35, 36, 37, 38, 39, 40, 41, 42, 43, 44, 45, 46, 47, 48, 49] [] (pre2 ++ [x2], rest2, decide (x2.sender = x1.key)) ?_ ⟨?_, ?_, ?_⟩ ?_)
                 · simp
                 · exact cut_snoc he2.out
                 · rfl
                 · first | rfl | simp
                 · first | (simp -implicitDefEqProofs only [SD, SF, SL, e_nf, reduceCtorEq, implies_true, ↓reduceIte, Nat.reduceEqDiff, Nat.reduceAdd, Nat.reduceMul, Nat.reduceSub, Nat.reduceLeDiff, Nat.reduceLT, Int.reduceLT, Int.reduceLE, Int.reduceEq, Int.reduceToNat, Int.reduceAdd, Int.reduceSub, Int.reduceNeg, Int.reduceBEq, Int.reduceBNe, Nat.reduceBEq, Int.cast_ofNat_Int, decide_true, decide_false, ne_eq, eq_self_iff_true, beq_eq_false_iff_ne, bne_iff_ne, List.replicate, encEv, encFl] <;> simp <;> done) | (simp -implicitDefEqProofs only [SD, SF, SL, e_nf, reduceCtorEq, implies_true, ↓reduceIte, Nat.reduceEqDiff, Nat.reduceAdd, Nat.reduceMul, Nat.reduceSub, Nat.reduceLeDiff, Nat.reduceLT, Int.reduceLT, Int.reduceLE, Int.reduceEq, Int.reduceToNat, Int.reduceAdd, Int.reduceSub, Int.reduceNeg, Int.reduceBEq, Int.reduceBNe, Nat.reduceBEq, Int.cast_ofNat_Int, decide_true, decide_false, ne_eq, eq_self_iff_true, beq_eq_false_iff_ne, bne_iff_ne, List.replicate, encEv, encFl, *] <;> simp_all <;> done))
              | (with_reducible refine ite_in (fun _ => ?_) (fun _ => ?_))
              | (with_reducible refine ⟨fun _ => ?_, fun _ => ?_⟩)
              | (with_reducible refine And.intro ?_ ?_)
              | (with_reducible intro _)
              | (with_reducible exact is_in _)
              | (simp -implicitDefEqProofs only [SD, SF, SL, e_nf, reduceCtorEq, implies_true, ↓reduceIte, Nat.reduceEqDiff, Nat.reduceAdd, Nat.reduceMul, Nat.reduceSub, Nat.reduceLeDiff, Nat.reduceLT, Int.reduceLT, Int.reduceLE, Int.reduceEq, Int.reduceToNat, Int.reduceAdd, Int.reduceSub, Int.reduceNeg, Int.reduceBEq, Int.reduceBNe, Nat.reduceBEq, Int.cast_ofNat_Int, decide_true, decide_false, ne_eq, eq_self_iff_true, beq_eq_false_iff_ne, bne_iff_ne, List.replicate, encEv, encFl, *]))))
            all_goals (first | omega | (simp only [maxLen, List.length_append, List.length_map, List.length_cons, List.length_nil] <;> omega) | (simp_all; done))
      · replace hp0 := Hd.mk hp0
        have hneed : Hd (needB f sh x1 = (true || senB sh x1.key)) := Hd.mk (by simp [needB, h1, h2])
        iterate 10 (all_goals (try (first
          | (with_reducible refine ite_in (fun _ => ?_) (fun _ => ?_))
          | (with_reducible refine ⟨fun _ => ?_, fun _ => ?_⟩)
          | (with_reducible refine And.intro ?_ ?_)
          | (with_reducible intro _)
          | (with_reducible exact is_in _)
          | (simp -implicitDefEqProofs only [SD, SF, SL, e_nf, reduceCtorEq, implies_true, ↓reduceIte, Nat.reduceEqDiff, Nat.reduceAdd, Nat.reduceMul, Nat.reduceSub, Nat.reduceLeDiff, Nat.reduceLT, Int.reduceLT, Int.reduceLE, Int.reduceEq, Int.reduceToNat, Int.reduceAdd, Int.reduceSub, Int.reduceNeg, Int.reduceBEq, Int.reduceBNe, Nat.reduceBEq, Int.cast_ofNat_Int, decide_true, decide_false, ne_eq, eq_self_iff_true, beq_eq_false_iff_ne, bne_iff_ne, List.replicate, encEv, encFl, *]))))
        refine loop_q (X := List Ev × List Ev × Bool) (fun n x => sh = x.1 ++ x.2.1 ∧ n = x.2.1.length ∧ (x.2.2 = (true || senB x.1 x1.key))) (fun x => [(10, .int .i64 x.1.length), (9, .bool x.2.2)]) (fun _ => []) [29, 30, 31, 32, 33, 34, 35, 36, 37, 38, 39, 40, 41, 42, 43, 44, 45, 46, 47, 48, 49] []  (sh).length ([], sh, true) ⟨rfl, rfl, by rfl⟩ ?_ ?_
        · simp -implicitDefEqProofs only [SD, SF, SL, e_nf, reduceCtorEq, implies_true, ↓reduceIte, Nat.reduceEqDiff, Nat.reduceAdd, Nat.reduceMul, Nat.reduceSub, Nat.reduceLeDiff, Nat.reduceLT, Int.reduceLT, Int.reduceLE, Int.reduceEq, Int.reduceToNat, Int.reduceAdd, Int.reduceSub, Int.reduceNeg, Int.reduceBEq, Int.reduceBNe, Nat.reduceBEq, Int.cast_ofNat_Int, decide_true, decide_false, ne_eq, eq_self_iff_true, beq_eq_false_iff_ne, bne_iff_ne, List.replicate, encEv, encFl] <;> simp
        · rintro n ⟨pre2, rest2, a2⟩ ⟨he2, rfl, hI2⟩
          dsimp only at he2 hI2
          cases rest2 with
          | nil =>
            obtain rfl : sh = pre2 := by simpa using he2
            clear he2
            have hlt2 : ¬ (((sh).length : Int) < ((sh).length : Int)) := Int.lt_irrefl _
            have hq : needB f sh x1 = a2 := by rw [hneed.out]; exact hI2.symm
            clear hI2
            cases a2
            all_goals rcases hyn with hY | hN
            all_goals try (exfalso; first | exact hN.out hq | exact Bool.noConfusion (hq.symm.trans hY.out))
            all_goals clear hq
            iterate 60 (all_goals (try (first
              | (have := hp0; have := hN; (with_reducible refine back_in rest1.length [9, 10, 12, 13, 14, 15, 16, 17, 18, 19, 20, 21, 22, 23, 24, 25, 26, 27, 28, 29, 30, 31, 32, 33, 34, 35, 36, 37, 38, 39, 40, 41, 42, 43, 44, 45, 46, 47, 48, 49, 50, 51, 52, 53, 54, 55, 56, 57] [56] (pre1 ++ [x1], rest1, (DV.ow 11, [(11, Blk.vec 41 29 ([]))])) ?_ ⟨?_, ?_, ?_⟩ ?_)
                 · simp
                 · exact cut_snoc he1.out
                 · rfl
                 · first | (left; refine ⟨?_, rfl⟩; rw [hsn, if_neg hN.out]; exact hp0.out) | (right; rw [hsn, if_neg hN.out]) | (right; rw [hsn, if_pos hY.out, hp0.out]; rfl) | (right; rw [hsn, if_pos hY.out, List.map_append]; rfl)
                 · first | (simp -implicitDefEqProofs only [SD, SF, SL, e_nf, reduceCtorEq, implies_true, ↓reduceIte, Nat.reduceEqDiff, Nat.reduceAdd, Nat.reduceMul, Nat.reduceSub, Nat.reduceLeDiff, Nat.reduceLT, Int.reduceLT, Int.reduceLE, Int.reduceEq, Int.reduceToNat, Int.reduceAdd, Int.reduceSub, Int.reduceNeg, Int.reduceBEq, Int.reduceBNe, Nat.reduceBEq, Int.cast_ofNat_Int, decide_true, decide_false, ne_eq, eq_self_iff_true, beq_eq_false_iff_ne, bne_iff_ne, List.replicate, encEv, encFl] <;> simp <;> done) | (simp -implicitDefEqProofs only [SD, SF, SL, e_nf, reduceCtorEq, implies_true, ↓reduceIte, Nat.reduceEqDiff, Nat.reduceAdd, Nat.reduceMul, Nat.reduceSub, Nat.reduceLeDiff, Nat.reduceLT, Int.reduceLT, Int.reduceLE, Int.reduceEq, Int.reduceToNat, Int.reduceAdd, Int.reduceSub, Int.reduceNeg, Int.reduceBEq, Int.reduceBNe, Nat.reduceBEq, Int.cast_ofNat_Int, decide_true, decide_false, ne_eq, eq_self_iff_true, beq_eq_false_iff_ne, bne_iff_ne, List.replicate, encEv, encFl, *] <;> simp_all <;> done))
              | (have := hv1; have := hN; (with_reducible refine back_in rest1.length [9, 10, 12, 13, 14, 15, 16, 17, 18, 19, 20, 21, 22, 23, 24, 25, 26, 27, 28, 29, 30, 31, 32, 33, 34, 35, 36, 37, 38, 39, 40, 41, 42, 43, 44, 45, 46, 47, 48, 49, 50, 51, 52, 53, 54, 55, 56, 57] [56] (pre1 ++ [x1], rest1, (DV.ow 57, [(57, Blk.vec 41 29 ((lazyL f pre1 sh).map encEv))])) ?_ ⟨?_, ?_, ?_⟩ ?_)
                 · simp
                 · exact cut_snoc he1.out
                 · rfl
                 · first | (left; refine ⟨?_, rfl⟩; rw [hsn, if_neg hN.out]; exact hp0.out) | (right; rw [hsn, if_neg hN.out]) | (right; rw [hsn, if_pos hY.out, hp0.out]; rfl) | (right; rw [hsn, if_pos hY.out, List.map_append]; rfl)
                 · first | (simp -implicitDefEqProofs only [SD, SF, SL, e_nf, reduceCtorEq, implies_true, ↓reduceIte, Nat.reduceEqDiff, Nat.reduceAdd, Nat.reduceMul, Nat.reduceSub, Nat.reduceLeDiff, Nat.reduceLT, Int.reduceLT, Int.reduceLE, Int.reduceEq, Int.reduceToNat, Int.reduceAdd, Int.reduceSub, Int.reduceNeg, Int.reduceBEq, Int.reduceBNe, Nat.reduceBEq, Int.cast_ofNat_Int, decide_true, decide_false, ne_eq, eq_self_iff_true, beq_eq_false_iff_ne, bne_iff_ne, List.replicate, encEv, encFl] <;> simp <;> done) | (simp -implicitDefEqProofs only [SD, SF, SL, e_nf, reduceCtorEq, implies_true, ↓reduceIte, Nat.reduceEqDiff, Nat.reduceAdd, Nat.reduceMul, Nat.reduceSub, Nat.reduceLeDiff, Nat.reduceLT, Int.reduceLT, Int.reduceLE, Int.reduceEq, Int.reduceToNat, Int.reduceAdd, Int.reduceSub, Int.reduceNeg, Int.reduceBEq, Int.reduceBNe, Nat.reduceBEq, Int.cast_ofNat_Int, decide_true, decide_false, ne_eq, eq_self_iff_true, beq_eq_false_iff_ne, bne_iff_ne, List.replicate, encEv, encFl, *] <;> simp_all <;> done))
              | (have := hv1; have := hY; (with_reducible refine back_in rest1.length [9, 10, 12, 13, 14, 15, 16, 17, 18, 19, 20, 21, 22, 23, 24, 25, 26, 27, 28, 29, 30, 31, 32, 33, 34, 35, 36, 37, 38, 39, 40, 41, 42, 43, 44, 45, 46, 47, 48, 49, 50, 51, 52, 53, 54, 55, 56, 57] [56] (pre1 ++ [x1], rest1, (DV.ow 57, [(57, Blk.vec 41 29 ((lazyL f pre1 sh).map encEv ++ [encEv x1]))])) ?_ ⟨?_, ?_, ?_⟩ ?_)
                 · simp
                 · exact cut_snoc he1.out
                 · rfl
                 · first | (left; refine ⟨?_, rfl⟩; rw [hsn, if_neg hN.out]; exact hp0.out) | (right; rw [hsn, if_neg hN.out]) | (right; rw [hsn, if_pos hY.out, hp0.out]; rfl) | (right; rw [hsn, if_pos hY.out, List.map_append]; rfl)
                 · first | (simp -implicitDefEqProofs only [SD, SF, SL, e_nf, reduceCtorEq, implies_true, ↓reduceIte, Nat.reduceEqDiff, Nat.reduceAdd, Nat.reduceMul, Nat.reduceSub, Nat.reduceLeDiff, Nat.reduceLT, Int.reduceLT, Int.reduceLE, Int.reduceEq, Int.reduceToNat, Int.reduceAdd, Int.reduceSub, Int.reduceNeg, Int.reduceBEq, Int.reduceBNe, Nat.reduceBEq, Int.cast_ofNat_Int, decide_true, decide_false, ne_eq, eq_self_iff_true, beq_eq_false_iff_ne, bne_iff_ne, List.replicate, encEv, encFl] <;> simp <;> done) | (simp -implicitDefEqProofs only [SD, SF, SL, e_nf, reduceCtorEq, implies_true, ↓reduceIte, Nat.reduceEqDiff, Nat.reduceAdd, Nat.reduceMul, Nat.reduceSub, Nat.reduceLeDiff, Nat.reduceLT, Int.reduceLT, Int.reduceLE, Int.reduceEq, Int.reduceToNat, Int.reduceAdd, Int.reduceSub, Int.reduceNeg, Int.reduceBEq, Int.reduceBNe, Nat.reduceBEq, Int.cast_ofNat_Int, decide_true, decide_false, ne_eq, eq_self_iff_true, beq_eq_false_iff_ne, bne_iff_ne, List.replicate, encEv, encFl, *] <;> simp_all <;> done))
              | (have := hp0; have := hY; (with_reducible refine back_in rest1.length [9, 10, 12, 13, 14, 15, 16, 17, 18, 19, 20, 21, 22, 23, 24, 25, 26, 27, 28, 29, 30, 31, 32, 33, 34, 35, 36, 37, 38, 39, 40, 41, 42, 43, 44, 45, 46, 47, 48, 49, 50, 51, 52, 53, 54, 55, 56, 57] [56] (pre1 ++ [x1], rest1, (DV.ow 57, [(57, Blk.vec 41 29 ([encEv x1]))])) ?_ ⟨?_, ?_, ?_⟩ ?_)
                 · simp
                 · exact cut_snoc he1.out
                 · rfl
                 · first | (left; refine ⟨?_, rfl⟩; rw [hsn, if_neg hN.out]; exact hp0.out) | (right; rw [hsn, if_neg hN.out]) | (right; rw [hsn, if_pos hY.out, hp0.out]; rfl) | (right; rw [hsn, if_pos hY.out, List.map_append]; rfl)
                 · first | (simp -implicitDefEqProofs only [SD, SF, SL, e_nf, reduceCtorEq, implies_true, ↓reduceIte, Nat.reduceEqDiff, Nat.reduceAdd, Nat.reduceMul, Nat.reduceSub, Nat.reduceLeDiff, Nat.reduceLT, Int.reduceLT, Int.reduceLE, Int.reduceEq, Int.reduceToNat, Int.reduceAdd, Int.reduceSub, Int.reduceNeg, Int.reduceBEq, Int.reduceBNe, Nat.reduceBEq, Int.cast_ofNat_Int, decide_true, decide_false, ne_eq, eq_self_iff_true, beq_eq_false_iff_ne, bne_iff_ne, List.replicate, encEv, encFl] <;> simp <;> done) | (simp -implicitDefEqProofs only [SD, SF, SL, e_nf, reduceCtorEq, implies_true, ↓reduceIte, Nat.reduceEqDiff, Nat.reduceAdd, Nat.reduceMul, Nat.reduceSub, Nat.reduceLeDiff, Nat.reduceLT, Int.reduceLT, Int.reduceLE, Int.reduceEq, Int.reduceToNat, Int.reduceAdd, Int.reduceSub, Int.reduceNeg, Int.reduceBEq, Int.reduceBNe, Nat.reduceBEq, Int.cast_ofNat_Int, decide_true, decide_false, ne_eq, eq_self_iff_true, beq_eq_false_iff_ne, bne_iff_ne, List.replicate, encEv, encFl, *] <;> simp_all <;> done))
              | (with_reducible refine ite_in (fun _ => ?_) (fun _ => ?_))
              | (with_reducible refine ⟨fun _ => ?_, fun _ => ?_⟩)
              | (with_reducible refine And.intro ?_ ?_)
              | (with_reducible intro _)
              | (with_reducible exact is_in _)
              | (simp -implicitDefEqProofs only [SD, SF, SL, e_nf, reduceCtorEq, implies_true, ↓reduceIte, Nat.reduceEqDiff, Nat.reduceAdd, Nat.reduceMul, Nat.reduceSub, Nat.reduceLeDiff, Nat.reduceLT, Int.reduceLT, Int.reduceLE, Int.reduceEq, Int.reduceToNat, Int.reduceAdd, Int.reduceSub, Int.reduceNeg, Int.reduceBEq, Int.reduceBNe, Nat.reduceBEq, Int.cast_ofNat_Int, decide_true, decide_false, ne_eq, eq_self_iff_true, beq_eq_false_iff_ne, bne_iff_ne, List.replicate, encEv, encFl, *]))))
            all_goals (first | omega | (simp only [maxLen, List.length_append, List.length_map, List.length_cons, List.length_nil] <;> omega) | (simp_all; done))

          | cons x2 rest2 =>
            have hlt2 := cut_lt he2
            have hx2 := cutD encEv he2
            simp only [encEv] at hx2
            simp -implicitDefEqProofs only [SD, SF, SL, e_nf, reduceCtorEq, implies_true, ↓reduceIte, Nat.reduceEqDiff, Nat.reduceAdd, Nat.reduceMul, Nat.reduceSub, Nat.reduceLeDiff, Nat.reduceLT, Int.reduceLT, Int.reduceLE, Int.reduceEq, Int.reduceToNat, Int.reduceAdd, Int.reduceSub, Int.reduceNeg, Int.reduceBEq, Int.reduceBNe, Nat.reduceBEq, Int.cast_ofNat_Int, decide_true, decide_false, ne_eq, eq_self_iff_true, beq_eq_false_iff_ne, bne_iff_ne, List.replicate, encEv, encFl, hlt2]
            intro hl
            have hw2 := wrap_len (n := pre2.length) (m := (sh).length) (cut_lt' he2) (by simpa using hl)
            replace he2 := Hd.mk he2
            have hq : a2 = true → needB f sh x1 = true := by
              intro h
              rw [hneed.out, he2.out]
              rw [h] at hI2
              first | rfl | (simp at hI2; simp [senB_pre hI2])
            replace hI2 := Hd.mk hI2
            cases a2
            all_goals try (exfalso; have hz := hI2.out; simp at hz; done)
            all_goals rcases hyn with hY | hN
            all_goals try (exfalso; exact hN.out (hq rfl))
            all_goals clear hq
            iterate 60 (all_goals (try (first
              | (have := hp0; have := hN; (with_reducible refine back_in rest1.length [9, 10, 12, 13, 14, 15, 16, 17, 18, 19, 20, 21, 22, 23, 24, 25, 26, 27, 28, 29, 30, 31, 32, 33, 34, 35, 36, 37, 38, 39, 40, 41, 42, 43, 44, 45, 46, 47, 48, 49, 50, 51, 52, 53, 54, 55, 56, 57] [56] (pre1 ++ [x1], rest1, (DV.ow 11, [(11, Blk.vec 41 29 ([]))])) ?_ ⟨?_, ?_, ?_⟩ ?_)
                 · simp
                 · exact cut_snoc he1.out
                 · rfl
                 · first | (left; refine ⟨?_, rfl⟩; rw [hsn, if_neg hN.out]; exact hp0.out) | (right; rw [hsn, if_neg hN.out]) | (right; rw [hsn, if_pos hY.out, hp0.out]; rfl) | (right; rw [hsn, if_pos hY.out, List.map_append]; rfl)
                 · first | (simp -implicitDefEqProofs only [SD, SF, SL, e_nf, reduceCtorEq, implies_true, ↓reduceIte, Nat.reduceEqDiff, Nat.reduceAdd, Nat.reduceMul, Nat.reduceSub, Nat.reduceLeDiff, Nat.reduceLT, Int.reduceLT, Int.reduceLE, Int.reduceEq, Int.reduceToNat, Int.reduceAdd, Int.reduceSub, Int.reduceNeg, Int.reduceBEq, Int.reduceBNe, Nat.reduceBEq, Int.cast_ofNat_Int, decide_true, decide_false, ne_eq, eq_self_iff_true, beq_eq_false_iff_ne, bne_iff_ne, List.replicate, encEv, encFl] <;> simp <;> done) | (simp -implicitDefEqProofs only [SD, SF, SL, e_nf, reduceCtorEq, implies_true, ↓reduceIte, Nat.reduceEqDiff, Nat.reduceAdd, Nat.reduceMul, Nat.reduceSub, Nat.reduceLeDiff, Nat.reduceLT, Int.reduceLT, Int.reduceLE, Int.reduceEq, Int.reduceToNat, Int.reduceAdd, Int.reduceSub, Int.reduceNeg, Int.reduceBEq, Int.reduceBNe, Nat.reduceBEq, Int.cast_ofNat_Int, decide_true, decide_false, ne_eq, eq_self_iff_true, beq_eq_false_iff_ne, bne_iff_ne, List.replicate, encEv, encFl, *] <;> simp_all <;> done))
              | (have := hv1; have := hN; (with_reducible refine back_in rest1.length [9, 10, 12, 13, 14, 15, 16, 17, 18, 19, 20, 21, 22, 23, 24, 25, 26, 27, 28, 29, 30, 31, 32, 33, 34, 35, 36, 37, 38, 39, 40, 41, 42, 43, 44, 45, 46, 47, 48, 49, 50, 51, 52, 53, 54, 55, 56, 57] [56] (pre1 ++ [x1], rest1, (DV.ow 57, [(57, Blk.vec 41 29 ((lazyL f pre1 sh).map encEv))])) ?_ ⟨?_, ?_, ?_⟩ ?_)
                 · simp
                 · exact cut_snoc he1.out
                 · rfl
                 · first | (left; refine ⟨?_, rfl⟩; rw [hsn, if_neg hN.out]; exact hp0.out) | (right; rw [hsn, if_neg hN.out]) | (right; rw [hsn, if_pos hY.out, hp0.out]; rfl) | (right; rw [hsn, if_pos hY.out, List.map_append]; rfl)
                 · first | (simp -implicitDefEqProofs only [SD, SF, SL, e_nf, reduceCtorEq, implies_true, ↓reduceIte, Nat.reduceEqDiff, Nat.reduceAdd, Nat.reduceMul, Nat.reduceSub, Nat.reduceLeDiff, Nat.reduceLT, Int.reduceLT, Int.reduceLE, Int.reduceEq, Int.reduceToNat, Int.reduceAdd, Int.reduceSub, Int.reduceNeg, Int.reduceBEq, Int.reduceBNe, Nat.reduceBEq, Int.cast_ofNat_Int, decide_true, decide_false, ne_eq, eq_self_iff_true, beq_eq_false_iff_ne, bne_iff_ne, List.replicate, encEv, encFl] <;> simp <;> done) | (simp -implicitDefEqProofs only [SD, SF, SL, e_nf, reduceCtorEq, implies_true, ↓reduceIte, Nat.reduceEqDiff, Nat.reduceAdd, Nat.reduceMul, Nat.reduceSub, Nat.reduceLeDiff, Nat.reduceLT, Int.reduceLT, Int.reduceLE, Int.reduceEq, Int.reduceToNat, Int.reduceAdd, Int.reduceSub, Int.reduceNeg, Int.reduceBEq, Int.reduceBNe, Nat.reduceBEq, Int.cast_ofNat_Int, decide_true, decide_false, ne_eq, eq_self_iff_true, beq_eq_false_iff_ne, bne_iff_ne, List.replicate, encEv, encFl, *] <;> simp_all <;> done))
              | (have := hv1; have := hY; (with_reducible refine back_in rest1.length [9, 10, 12, 13, 14, 15, 16, 17, 18, 19, 20, 21, 22, 23, 24, 25, 26, 27, 28, 29, 30, 31, 32, 33, 34, 35, 36, 37, 38, 39, 40, 41, 42, 43, 44, 45, 46, 47, 48, 49, 50, 51, 52, 53, 54, 55, 56, 57] [56] (pre1 ++ [x1], rest1, (DV.ow 57, [(57, Blk.vec 41 29 ((lazyL f pre1 sh).map encEv ++ [encEv x1]))])) ?_ ⟨?_, ?_, ?_⟩ ?_)
                 · simp
                 · exact cut_snoc he1.out
                 · rfl
                 · first | (left; refine ⟨?_, rfl⟩; rw [hsn, if_neg hN.out]; exact hp0.out) | (right; rw [hsn, if_neg hN.out]) | (right; rw [hsn, if_pos hY.out, hp0.out]; rfl) | (right; rw [hsn, if_pos hY.out, List.map_append]; rfl)
                 · first | (simp -implicitDefEqProofs only [SD, SF, SL, e_nf, reduceCtorEq, implies_true, ↓reduceIte, Nat.reduceEqDiff, Nat.reduceAdd, Nat.reduceMul, Nat.reduceSub, Nat.reduceLeDiff, Nat.reduceLT, Int.reduceLT, Int.reduceLE, Int.reduceEq, Int.reduceToNat, Int.reduceAdd, Int.reduceSub, Int.reduceNeg, Int.reduceBEq, Int.reduceBNe, Nat.reduceBEq, Int.cast_ofNat_Int, decide_true, decide_false, ne_eq, eq_self_iff_true, beq_eq_false_iff_ne, bne_iff_ne, List.replicate, encEv, encFl] <;> simp <;> done) | (simp -implicitDefEqProofs only [SD, SF, SL, e_nf, reduceCtorEq, implies_true, ↓reduceIte, Nat.reduceEqDiff, Nat.reduceAdd, Nat.reduceMul, Nat.reduceSub, Nat.reduceLeDiff, Nat.reduceLT, Int.reduceLT, Int.reduceLE, Int.reduceEq, Int.reduceToNat, Int.reduceAdd, Int.reduceSub, Int.reduceNeg, Int.reduceBEq, Int.reduceBNe, Nat.reduceBEq, Int.cast_ofNat_Int, decide_true, decide_false, ne_eq, eq_self_iff_true, beq_eq_false_iff_ne, bne_iff_ne, List.replicate, encEv, encFl, *] <;> simp_all <;> done))
              | (have := hp0; have := hY; (with_reducible refine back_in rest1.length [9, 10, 12, 13, 14, 15, 16, 17, 18, 19, 20, 21, 22, 23, 24, 25, 26, 27, 28, 29, 30, 31, 32, 33, 34, 35, 36, 37, 38, 39, 40, 41, 42, 43, 44, 45, 46, 47, 48, 49, 50, 51, 52, 53, 54, 55, 56, 57] [56] (pre1 ++ [x1], rest1, (DV.ow 57, [(57, Blk.vec 41 29 ([encEv x1]))])) ?_ ⟨?_, ?_, ?_⟩ ?_)
                 · simp
                 · exact cut_snoc he1.out
                 · rfl
                 · first | (left; refine ⟨?_, rfl⟩; rw [hsn, if_neg hN.out]; exact hp0.out) | (right; rw [hsn, if_neg hN.out]) | (right; rw [hsn, if_pos hY.out, hp0.out]; rfl) | (right; rw [hsn, if_pos hY.out, List.map_append]; rfl)
                 · first | (simp -implicitDefEqProofs only [SD, SF, SL, e_nf, reduceCtorEq, implies_true, ↓reduceIte, Nat.reduceEqDiff, Nat.reduceAdd, Nat.reduceMul, Nat.reduceSub, Nat.reduceLeDiff, Nat.reduceLT, Int.reduceLT, Int.reduceLE, Int.reduceEq, Int.reduceToNat, Int.reduceAdd, Int.reduceSub, Int.reduceNeg, Int.reduceBEq, Int.reduceBNe, Nat.reduceBEq, Int.cast_ofNat_Int, decide_true, decide_false, ne_eq, eq_self_iff_true, beq_eq_false_iff_ne, bne_iff_ne, List.replicate, encEv, encFl] <;> simp <;> done) | (simp -implicitDefEqProofs only [SD, SF, SL, e_nf, reduceCtorEq, implies_true, ↓reduceIte, Nat.reduceEqDiff, Nat.reduceAdd, Nat.reduceMul, Nat.reduceSub, Nat.reduceLeDiff, Nat.reduceLT, Int.reduceLT, Int.reduceLE, Int.reduceEq, Int.reduceToNat, Int.reduceAdd, Int.reduceSub, Int.reduceNeg, Int.reduceBEq, Int.reduceBNe, Nat.reduceBEq, Int.cast_ofNat_Int, decide_true, decide_false, ne_eq, eq_self_iff_true, beq_eq_false_iff_ne, bne_iff_ne, List.replicate, encEv, encFl, *] <;> simp_all <;> done))
              | ((with_reducible refine back_in rest2.length [29, 30, 31, 32, 33, 34, 35, 36, 37, 38, 39, 40, 41, 42, 43, 44, 45, 46, 47, 48, 49] [] (pre2 ++ [x2], rest2, decide (x2.sender = x1.key)) ?_ ⟨?_, ?_, ?_⟩ ?_)
                 · simp
                 · exact cut_snoc he2.out
                 · rfl
                 · first | rfl | simp
                 · first | (simp -implicitDefEqProofs only [SD, SF, SL, e_nf, reduceCtorEq, implies_true, ↓reduceIte, Nat.reduceEqDiff, Nat.reduceAdd, Nat.reduceMul, Nat.reduceSub, Nat.reduceLeDiff, Nat.reduceLT, Int.reduceLT, Int.reduceLE, Int.reduceEq, Int.reduceToNat, Int.reduceAdd, Int.reduceSub, Int.reduceNeg, Int.reduceBEq, Int.reduceBNe, Nat.reduceBEq, Int.cast_ofNat_Int, decide_true, decide_false, ne_eq, eq_self_iff_true, beq_eq_false_iff_ne, bne_iff_ne, List.replicate, encEv, encFl] <;> simp <;> done) | (simp -implicitDefEqProofs only [SD, SF, SL, e_nf, reduceCtorEq, implies_true, ↓reduceIte, Nat.reduceEqDiff, Nat.reduceAdd, Nat.reduceMul, Nat.reduceSub, Nat.reduceLeDiff, Nat.reduceLT, Int.reduceLT, Int.reduceLE, Int.reduceEq, Int.reduceToNat, Int.reduceAdd, Int.reduceSub, Int.reduceNeg, Int.reduceBEq, Int.reduceBNe, Nat.reduceBEq, Int.cast_ofNat_Int, decide_true, decide_false, ne_eq, eq_self_iff_true, beq_eq_false_iff_ne, bne_iff_ne, List.replicate, encEv, encFl, *] <;> simp_all <;> done))
              | (with_reducible refine ite_in (fun _ => ?_) (fun _ => ?_))
              | (with_reducible refine ⟨fun _ => ?_, fun _ => ?_⟩)
              | (with_reducible refine And.intro ?_ ?_)
              | (with_reducible intro _)
              | (with_reducible exact is_in _)
              | (simp -implicitDefEqProofs only [SD, SF, SL, e_nf, reduceCtorEq, implies_true, ↓reduceIte, Nat.reduceEqDiff, Nat.reduceAdd, Nat.reduceMul, Nat.reduceSub, Nat.reduceLeDiff, Nat.reduceLT, Int.reduceLT, Int.reduceLE, Int.reduceEq, Int.reduceToNat, Int.reduceAdd, Int.reduceSub, Int.reduceNeg, Int.reduceBEq, Int.reduceBNe, Nat.reduceBEq, Int.cast_ofNat_Int, decide_true, decide_false, ne_eq, eq_self_iff_true, beq_eq_false_iff_ne, bne_iff_ne, List.replicate, encEv, encFl, *]))))
            all_goals (first | omega | (simp only [maxLen, List.length_append, List.length_map, List.length_cons, List.length_nil] <;> omega) | (simp_all; done))
      · have hv1 : True := trivial
        have hneed : Hd (needB f sh x1 = (true || senB sh x1.key)) := Hd.mk (by simp [needB, h1, h2])
        iterate 10 (all_goals (try (first
          | (with_reducible refine ite_in (fun _ => ?_) (fun _ => ?_))
          | (with_reducible refine ⟨fun _ => ?_, fun _ => ?_⟩)
          | (with_reducible refine And.intro ?_ ?_)
          | (with_reducible intro _)
          | (with_reducible exact is_in _)
          | (simp -implicitDefEqProofs only [SD, SF, SL, e_nf, reduceCtorEq, implies_true, ↓reduceIte, Nat.reduceEqDiff, Nat.reduceAdd, Nat.reduceMul, Nat.reduceSub, Nat.reduceLeDiff, Nat.reduceLT, Int.reduceLT, Int.reduceLE, Int.reduceEq, Int.reduceToNat, Int.reduceAdd, Int.reduceSub, Int.reduceNeg, Int.reduceBEq, Int.reduceBNe, Nat.reduceBEq, Int.cast_ofNat_Int, decide_true, decide_false, ne_eq, eq_self_iff_true, beq_eq_false_iff_ne, bne_iff_ne, List.replicate, encEv, encFl, *]))))
        refine loop_q (X := List Ev × List Ev × Bool) (fun n x => sh = x.1 ++ x.2.1 ∧ n = x.2.1.length ∧ (x.2.2 = (true || senB x.1 x1.key))) (fun x => [(10, .int .i64 x.1.length), (9, .bool x.2.2)]) (fun _ => []) [29, 30, 31, 32, 33, 34, 35, 36, 37, 38, 39, 40, 41, 42, 43, 44, 45, 46, 47, 48, 49] []  (sh).length ([], sh, true) ⟨rfl, rfl, by rfl⟩ ?_ ?_
        · simp -implicitDefEqProofs only [SD, SF, SL, e_nf, reduceCtorEq, implies_true, ↓reduceIte, Nat.reduceEqDiff, Nat.reduceAdd, Nat.reduceMul, Nat.reduceSub, Nat.reduceLeDiff, Nat.reduceLT, Int.reduceLT, Int.reduceLE, Int.reduceEq, Int.reduceToNat, Int.reduceAdd, Int.reduceSub, Int.reduceNeg, Int.reduceBEq, Int.reduceBNe, Nat.reduceBEq, Int.cast_ofNat_Int, decide_true, decide_false, ne_eq, eq_self_iff_true, beq_eq_false_iff_ne, bne_iff_ne, List.replicate, encEv, encFl] <;> simp
        · rintro n ⟨pre2, rest2, a2⟩ ⟨he2, rfl, hI2⟩
          dsimp only at he2 hI2
          cases rest2 with
          | nil =>
            obtain rfl : sh = pre2 := by simpa using he2
            clear he2
            have hlt2 : ¬ (((sh).length : Int) < ((sh).length : Int)) := Int.lt_irrefl _
            have hq : needB f sh x1 = a2 := by rw [hneed.out]; exact hI2.symm
            clear hI2
            cases a2
            all_goals rcases hyn with hY | hN
            all_goals try (exfalso; first | exact hN.out hq | exact Bool.noConfusion (hq.symm.trans hY.out))
            all_goals clear hq
            iterate 60 (all_goals (try (first
              | (have := hp0; have := hN; (with_reducible refine back_in rest1.length [9, 10, 12, 13, 14, 15, 16, 17, 18, 19, 20, 21, 22, 23, 24, 25, 26, 27, 28, 29, 30, 31, 32, 33, 34, 35, 36, 37, 38, 39, 40, 41, 42, 43, 44, 45, 46, 47, 48, 49, 50, 51, 52, 53, 54, 55, 56, 57] [56] (pre1 ++ [x1], rest1, (DV.ow 11, [(11, Blk.vec 41 29 ([]))])) ?_ ⟨?_, ?_, ?_⟩ ?_)
                 · simp
                 · exact cut_snoc he1.out
                 · rfl
                 · first | (left; refine ⟨?_, rfl⟩; rw [hsn, if_neg hN.out]; exact hp0.out) | (right; rw [hsn, if_neg hN.out]) | (right; rw [hsn, if_pos hY.out, hp0.out]; rfl) | (right; rw [hsn, if_pos hY.out, List.map_append]; rfl)
                 · first | (simp -implicitDefEqProofs only [SD, SF, SL, e_nf, reduceCtorEq, implies_true, ↓reduceIte, Nat.reduceEqDiff, Nat.reduceAdd, Nat.reduceMul, Nat.reduceSub, Nat.reduceLeDiff, Nat.reduceLT, Int.reduceLT, Int.reduceLE, Int.reduceEq, Int.reduceToNat, Int.reduceAdd, Int.reduceSub, Int.reduceNeg, Int.reduceBEq, Int.reduceBNe, Nat.reduceBEq, Int.cast_ofNat_Int, decide_true, decide_false, ne_eq, eq_self_iff_true, beq_eq_false_iff_ne, bne_iff_ne, List.replicate, encEv, encFl] <;> simp <;> done) | (simp -implicitDefEqProofs only [SD, SF, SL, e_nf, reduceCtorEq, implies_true, ↓reduceIte, Nat.reduceEqDiff, Nat.reduceAdd, Nat.reduceMul, Nat.reduceSub, Nat.reduceLeDiff, Nat.reduceLT, Int.reduceLT, Int.reduceLE, Int.reduceEq, Int.reduceToNat, Int.reduceAdd, Int.reduceSub, Int.reduceNeg, Int.reduceBEq, Int.reduceBNe, Nat.reduceBEq, Int.cast_ofNat_Int, decide_true, decide_false, ne_eq, eq_self_iff_true, beq_eq_false_iff_ne, bne_iff_ne, List.replicate, encEv, encFl, *] <;> simp_all <;> done))
              | (have := hv1; have := hN; (with_reducible refine back_in rest1.length [9, 10, 12, 13, 14, 15, 16, 17, 18, 19, 20, 21, 22, 23, 24, 25, 26, 27, 28, 29, 30, 31, 32, 33, 34, 35, 36, 37, 38, 39, 40, 41, 42, 43, 44, 45, 46, 47, 48, 49, 50, 51, 52, 53, 54, 55, 56, 57] [56] (pre1 ++ [x1], rest1, (DV.ow 57, [(57, Blk.vec 41 29 ((lazyL f pre1 sh).map encEv))])) ?_ ⟨?_, ?_, ?_⟩ ?_)
                 · simp
                 · exact cut_snoc he1.out
                 · rfl
                 · first | (left; refine ⟨?_, rfl⟩; rw [hsn, if_neg hN.out]; exact hp0.out) | (right; rw [hsn, if_neg hN.out]) | (right; rw [hsn, if_pos hY.out, hp0.out]; rfl) | (right; rw [hsn, if_pos hY.out, List.map_append]; rfl)
                 · first | (simp -implicitDefEqProofs only [SD, SF, SL, e_nf, reduceCtorEq, implies_true, ↓reduceIte, Nat.reduceEqDiff, Nat.reduceAdd, Nat.reduceMul, Nat.reduceSub, Nat.reduceLeDiff, Nat.reduceLT, Int.reduceLT, Int.reduceLE, Int.reduceEq, Int.reduceToNat, Int.reduceAdd, Int.reduceSub, Int.reduceNeg, Int.reduceBEq, Int.reduceBNe, Nat.reduceBEq, Int.cast_ofNat_Int, decide_true, decide_false, ne_eq, eq_self_iff_true, beq_eq_false_iff_ne, bne_iff_ne, List.replicate, encEv, encFl] <;> simp <;> done) | (simp -implicitDefEqProofs only [SD, SF, SL, e_nf, reduceCtorEq, implies_true, ↓reduceIte, Nat.reduceEqDiff, Nat.reduceAdd, Nat.reduceMul, Nat.reduceSub, Nat.reduceLeDiff, Nat.reduceLT, Int.reduceLT, Int.reduceLE, Int.reduceEq, Int.reduceToNat, Int.reduceAdd, Int.reduceSub, Int.reduceNeg, Int.reduceBEq, Int.reduceBNe, Nat.reduceBEq, Int.cast_ofNat_Int, decide_true, decide_false, ne_eq, eq_self_iff_true, beq_eq_false_iff_ne, bne_iff_ne, List.replicate, encEv, encFl, *] <;> simp_all <;> done))
              | (have := hv1; have := hY; (with_reducible refine back_in rest1.length [9, 10, 12, 13, 14, 15, 16, 17, 18, 19, 20, 21, 22, 23, 24, 25, 26, 27, 28, 29, 30, 31, 32, 33, 34, 35, 36, 37, 38, 39, 40, 41, 42, 43, 44, 45, 46, 47, 48, 49, 50, 51, 52, 53, 54, 55, 56, 57] [56] (pre1 ++ [x1], rest1, (DV.ow 57, [(57, Blk.vec 41 29 ((lazyL f pre1 sh).map encEv ++ [encEv x1]))])) ?_ ⟨?_, ?_, ?_⟩ ?_)
                 · simp
                 · exact cut_snoc he1.out
                 · rfl
                 · first | (left; refine ⟨?_, rfl⟩; rw [hsn, if_neg hN.out]; exact hp0.out) | (right; rw [hsn, if_neg hN.out]) | (right; rw [hsn, if_pos hY.out, hp0.out]; rfl) | (right; rw [hsn, if_pos hY.out, List.map_append]; rfl)
                 · first | (simp -implicitDefEqProofs only [SD, SF, SL, e_nf, reduceCtorEq, implies_true, ↓reduceIte, Nat.reduceEqDiff, Nat.reduceAdd, Nat.reduceMul, Nat.reduceSub, Nat.reduceLeDiff, Nat.reduceLT, Int.reduceLT, Int.reduceLE, Int.reduceEq, Int.reduceToNat, Int.reduceAdd, Int.reduceSub, Int.reduceNeg, Int.reduceBEq, Int.reduceBNe, Nat.reduceBEq, Int.cast_ofNat_Int, decide_true, decide_false, ne_eq, eq_self_iff_true, beq_eq_false_iff_ne, bne_iff_ne, List.replicate, encEv, encFl] <;> simp <;> done) | (simp -implicitDefEqProofs only [SD, SF, SL, e_nf, reduceCtorEq, implies_true, ↓reduceIte, Nat.reduceEqDiff, Nat.reduceAdd, Nat.reduceMul, Nat.reduceSub, Nat.reduceLeDiff, Nat.reduceLT, Int.reduceLT, Int.reduceLE, Int.reduceEq, Int.reduceToNat, Int.reduceAdd, Int.reduceSub, Int.reduceNeg, Int.reduceBEq, Int.reduceBNe, Nat.reduceBEq, Int.cast_ofNat_Int, decide_true, decide_false, ne_eq, eq_self_iff_true, beq_eq_false_iff_ne, bne_iff_ne, List.replicate, encEv, encFl, *] <;> simp_all <;> done))
              | (have := hp0; have := hY; (with_reducible refine back_in rest1.length [9, 10, 12, 13, 14, 15, 16, 17, 18, 19, 20, 21, 22, 23, 24, 25, 26, 27, 28, 29, 30, 31, 32, 33, 34, 35, 36, 37, 38, 39, 40, 41, 42, 43, 44, 45, 46, 47, 48, 49, 50, 51, 52, 53, 54, 55, 56, 57] [56] (pre1 ++ [x1], rest1, (DV.ow 57, [(57, Blk.vec 41 29 ([encEv x1]))])) ?_ ⟨?_, ?_, ?_⟩ ?_)
                 · simp
                 · exact cut_snoc he1.out
                 · rfl
                 · first | (left; refine ⟨?_, rfl⟩; rw [hsn, if_neg hN.out]; exact hp0.out) | (right; rw [hsn, if_neg hN.out]) | (right; rw [hsn, if_pos hY.out, hp0.out]; rfl) | (right; rw [hsn, if_pos hY.out, List.map_append]; rfl)
                 · first | (simp -implicitDefEqProofs only [SD, SF, SL, e_nf, reduceCtorEq, implies_true, ↓reduceIte, Nat.reduceEqDiff, Nat.reduceAdd, Nat.reduceMul, Nat.reduceSub, Nat.reduceLeDiff, Nat.reduceLT, Int.reduceLT, Int.reduceLE, Int.reduceEq, Int.reduceToNat, Int.reduceAdd, Int.reduceSub, Int.reduceNeg, Int.reduceBEq, Int.reduceBNe, Nat.reduceBEq, Int.cast_ofNat_Int, decide_true, decide_false, ne_eq, eq_self_iff_true, beq_eq_false_iff_ne, bne_iff_ne, List.replicate, encEv, encFl] <;> simp <;> done) | (simp -implicitDefEqProofs only [SD, SF, SL, e_nf, reduceCtorEq, implies_true, ↓reduceIte, Nat.reduceEqDiff, Nat.reduceAdd, Nat.reduceMul, Nat.reduceSub, Nat.reduceLeDiff, Nat.reduceLT, Int.reduceLT, Int.reduceLE, Int.reduceEq, Int.reduceToNat, Int.reduceAdd, Int.reduceSub, Int.reduceNeg, Int.reduceBEq, Int.reduceBNe, Nat.reduceBEq, Int.cast_ofNat_Int, decide_true, decide_false, ne_eq, eq_self_iff_true, beq_eq_false_iff_ne, bne_iff_ne, List.replicate, encEv, encFl, *] <;> simp_all <;> done))
              | (with_reducible refine ite_in (fun _ => ?_) (fun _ => ?_))
              | (with_reducible refine ⟨fun _ => ?_, fun _ => ?_⟩)
              | (with_reducible refine And.intro ?_ ?_)
              | (with_reducible intro _)
              | (with_reducible exact is_in _)
              | (simp -implicitDefEqProofs only [SD, SF, SL, e_nf, reduceCtorEq, implies_true, ↓reduceIte, Nat.reduceEqDiff, Nat.reduceAdd, Nat.reduceMul, Nat.reduceSub, Nat.reduceLeDiff, Nat.reduceLT, Int.reduceLT, Int.reduceLE, Int.reduceEq, Int.reduceToNat, Int.reduceAdd, Int.reduceSub, Int.reduceNeg, Int.reduceBEq, Int.reduceBNe, Nat.reduceBEq, Int.cast_ofNat_Int, decide_true, decide_false, ne_eq, eq_self_iff_true, beq_eq_false_iff_ne, bne_iff_ne, List.replicate, encEv, encFl, *]))))
            all_goals (first | omega | (simp only [maxLen, List.length_append, List.length_map, List.length_cons, List.length_nil] <;> omega) | (simp_all; done))

          | cons x2 rest2 =>
            have hlt2 := cut_lt he2
            have hx2 := cutD encEv he2
            simp only [encEv] at hx2
            simp -implicitDefEqProofs only [SD, SF, SL, e_nf, reduceCtorEq, implies_true, ↓reduceIte, Nat.reduceEqDiff, Nat.reduceAdd, Nat.reduceMul, Nat.reduceSub, Nat.reduceLeDiff, Nat.reduceLT, Int.reduceLT, Int.reduceLE, Int.reduceEq, Int.reduceToNat, Int.reduceAdd, Int.reduceSub, Int.reduceNeg, Int.reduceBEq, Int.reduceBNe, Nat.reduceBEq, Int.cast_ofNat_Int, decide_true, decide_false, ne_eq, eq_self_iff_true, beq_eq_false_iff_ne, bne_iff_ne, List.replicate, encEv, encFl, hlt2]
            intro hl
            have hw2 := wrap_len (n := pre2.length) (m := (sh).length) (cut_lt' he2) (by simpa using hl)
            replace he2 := Hd.mk he2
            have hq : a2 = true → needB f sh x1 = true := by
              intro h
              rw [hneed.out, he2.out]
              rw [h] at hI2
              first | rfl | (simp at hI2; simp [senB_pre hI2])
            replace hI2 := Hd.mk hI2
            cases a2
            all_goals try (exfalso; have hz := hI2.out; simp at hz; done)
            all_goals rcases hyn with hY | hN
            all_goals try (exfalso; exact hN.out (hq rfl))
            all_goals clear hq
            iterate 60 (all_goals (try (first
              | (have := hp0; have := hN; (with_reducible refine back_in rest1.length [9, 10, 12, 13, 14, 15, 16, 17, 18, 19, 20, 21, 22, 23, 24, 25, 26, 27, 28, 29, 30, 31, 32, 33, 34, 35, 36, 37, 38, 39, 40, 41, 42, 43, 44, 45, 46, 47, 48, 49, 50, 51, 52, 53, 54, 55, 56, 57] [56] (pre1 ++ [x1], rest1, (DV.ow 11, [(11, Blk.vec 41 29 ([]))])) ?_ ⟨?_, ?_, ?_⟩ ?_)
                 · simp
                 · exact cut_snoc he1.out
                 · rfl
                 · first | (left; refine ⟨?_, rfl⟩; rw [hsn, if_neg hN.out]; exact hp0.out) | (right; rw [hsn, if_neg hN.out]) | (right; rw [hsn, if_pos hY.out, hp0.out]; rfl) | (right; rw [hsn, if_pos hY.out, List.map_append]; rfl)
                 · first | (simp -implicitDefEqProofs only [SD, SF, SL, e_nf, reduceCtorEq, implies_true, ↓reduceIte, Nat.reduceEqDiff, Nat.reduceAdd, Nat.reduceMul, Nat.reduceSub, Nat.reduceLeDiff, Nat.reduceLT, Int.reduceLT, Int.reduceLE, Int.reduceEq, Int.reduceToNat, Int.reduceAdd, Int.reduceSub, Int.reduceNeg, Int.reduceBEq, Int.reduceBNe, Nat.reduceBEq, Int.cast_ofNat_Int, decide_true, decide_false, ne_eq, eq_self_iff_true, beq_eq_false_iff_ne, bne_iff_ne, List.replicate, encEv, encFl] <;> simp <;> done) | (simp -implicitDefEqProofs only [SD, SF, SL, e_nf, reduceCtorEq, implies_true, ↓reduceIte, Nat.reduceEqDiff, Nat.reduceAdd, Nat.reduceMul, Nat.reduceSub, Nat.reduceLeDiff, Nat.reduceLT, Int.reduceLT, Int.reduceLE, Int.reduceEq, Int.reduceToNat, Int.reduceAdd, Int.reduceSub, Int.reduceNeg, Int.reduceBEq, Int.reduceBNe, Nat.reduceBEq, Int.cast_ofNat_Int, decide_true, decide_false, ne_eq, eq_self_iff_true, beq_eq_false_iff_ne, bne_iff_ne, List.replicate, encEv, encFl, *] <;> simp_all <;> done))
              | (have := hv1; have := hN; (with_reducible refine back_in rest1.length [9, 10, 12, 13, 14, 15, 16, 17, 18, 19, 20, 21, 22, 23, 24, 25, 26, 27, 28, 29, 30, 31, 32, 33, 34, 35, 36, 37, 38, 39, 40, 41, 42, 43, 44, 45, 46, 47, 48, 49, 50, 51, 52, 53, 54, 55, 56, 57] [56] (pre1 ++ [x1], rest1, (DV.ow 57, [(57, Blk.vec 41 29 ((lazyL f pre1 sh).map encEv))])) ?_ ⟨?_, ?_, ?_⟩ ?_)
                 · simp
                 · exact cut_snoc he1.out
                 · rfl
                 · first | (left; refine ⟨?_, rfl⟩; rw [hsn, if_neg hN.out]; exact hp0.out) | (right; rw [hsn, if_neg hN.out]) | (right; rw [hsn, if_pos hY.out, hp0.out]; rfl) | (right; rw [hsn, if_pos hY.out, List.map_append]; rfl)
                 · first | (simp -implicitDefEqProofs only [SD, SF, SL, e_nf, reduceCtorEq, implies_true, ↓reduceIte, Nat.reduceEqDiff, Nat.reduceAdd, Nat.reduceMul, Nat.reduceSub, Nat.reduceLeDiff, Nat.reduceLT, Int.reduceLT, Int.reduceLE, Int.reduceEq, Int.reduceToNat, Int.reduceAdd, Int.reduceSub, Int.reduceNeg, Int.reduceBEq, Int.reduceBNe, Nat.reduceBEq, Int.cast_ofNat_Int, decide_true, decide_false, ne_eq, eq_self_iff_true, beq_eq_false_iff_ne, bne_iff_ne, List.replicate, encEv, encFl] <;> simp <;> done) | (simp -implicitDefEqProofs only [SD, SF, SL, e_nf, reduceCtorEq, implies_true, ↓reduceIte, Nat.reduceEqDiff, Nat.reduceAdd, Nat.reduceMul, Nat.reduceSub, Nat.reduceLeDiff, Nat.reduceLT, Int.reduceLT, Int.reduceLE, Int.reduceEq, Int.reduceToNat, Int.reduceAdd, Int.reduceSub, Int.reduceNeg, Int.reduceBEq, Int.reduceBNe, Nat.reduceBEq, Int.cast_ofNat_Int, decide_true, decide_false, ne_eq, eq_self_iff_true, beq_eq_false_iff_ne, bne_iff_ne, List.replicate, encEv, encFl, *] <;> simp_all <;> done))
              | (have := hv1; have := hY; (with_reducible refine back_in rest1.length [9, 10, 12, 13, 14, 15, 16, 17, 18, 19, 20, 21, 22, 23, 24, 25, 26, 27, 28, 29, 30, 31, 32, 33, 34, 35, 36, 37, 38, 39, 40, 41, 42, 43, 44, 45, 46, 47, 48, 49, 50, 51, 52, 53, 54, 55, 56, 57] [56] (pre1 ++ [x1], rest1, (DV.ow 57, [(57, Blk.vec 41 29 ((lazyL f pre1 sh).map encEv ++ [encEv x1]))])) ?_ ⟨?_, ?_, ?_⟩ ?_)
                 · simp
                 · exact cut_snoc he1.out
                 · rfl
                 · first | (left; refine ⟨?_, rfl⟩; rw [hsn, if_neg hN.out]; exact hp0.out) | (right; rw [hsn, if_neg hN.out]) | (right; rw [hsn, if_pos hY.out, hp0.out]; rfl) | (right; rw [hsn, if_pos hY.out, List.map_append]; rfl)
                 · first | (simp -implicitDefEqProofs only [SD, SF, SL, e_nf, reduceCtorEq, implies_true, ↓reduceIte, Nat.reduceEqDiff, Nat.reduceAdd, Nat.reduceMul, Nat.reduceSub, Nat.reduceLeDiff, Nat.reduceLT, Int.reduceLT, Int.reduceLE, Int.reduceEq, Int.reduceToNat, Int.reduceAdd, Int.reduceSub, Int.reduceNeg, Int.reduceBEq, Int.reduceBNe, Nat.reduceBEq, Int.cast_ofNat_Int, decide_true, decide_false, ne_eq, eq_self_iff_true, beq_eq_false_iff_ne, bne_iff_ne, List.replicate, encEv, encFl] <;> simp <;> done) | (simp -implicitDefEqProofs only [SD, SF, SL, e_nf, reduceCtorEq, implies_true, ↓reduceIte, Nat.reduceEqDiff, Nat.reduceAdd, Nat.reduceMul, Nat.reduceSub, Nat.reduceLeDiff, Nat.reduceLT, Int.reduceLT, Int.reduceLE, Int.reduceEq, Int.reduceToNat, Int.reduceAdd, Int.reduceSub, Int.reduceNeg, Int.reduceBEq, Int.reduceBNe, Nat.reduceBEq, Int.cast_ofNat_Int, decide_true, decide_false, ne_eq, eq_self_iff_true, beq_eq_false_iff_ne, bne_iff_ne, List.replicate, encEv, encFl, *] <;> simp_all <;> done))
              | (have := hp0; have := hY; (with_reducible refine back_in rest1.length [9, 10, 12, 13, 14, 15, 16, 17, 18, 19, 20, 21, 22, 23, 24, 25, 26, 27, 28, 29, 30, 31, 32, 33, 34, 35, 36, 37, 38, 39, 40, 41, 42, 43, 44, 45, 46, 47, 48, 49, 50, 51, 52, 53, 54, 55, 56, 57] [56] (pre1 ++ [x1], rest1, (DV.ow 57, [(57, Blk.vec 41 29 ([encEv x1]))])) ?_ ⟨?_, ?_, ?_⟩ ?_)
                 · simp
                 · exact cut_snoc he1.out
                 · rfl
                 · first | (left; refine ⟨?_, rfl⟩; rw [hsn, if_neg hN.out]; exact hp0.out) | (right; rw [hsn, if_neg hN.out]) | (right; rw [hsn, if_pos hY.out, hp0.out]; rfl) | (right; rw [hsn, if_pos hY.out, List.map_append]; rfl)
                 · first | (simp -implicitDefEqProofs only [SD, SF, SL, e_nf, reduceCtorEq, implies_true, ↓reduceIte, Nat.reduceEqDiff, Nat.reduceAdd, Nat.reduceMul, Nat.reduceSub, Nat.reduceLeDiff, Nat.reduceLT, Int.reduceLT, Int.reduceLE, Int.reduceEq, Int.reduceToNat, Int.reduceAdd, Int.reduceSub, Int.reduceNeg, Int.reduceBEq, Int.reduceBNe, Nat.reduceBEq, Int.cast_ofNat_Int, decide_true, decide_false, ne_eq, eq_self_iff_true, beq_eq_false_iff_ne, bne_iff_ne, List.replicate, encEv, encFl] <;> simp <;> done) | (simp -implicitDefEqProofs only [SD, SF, SL, e_nf, reduceCtorEq, implies_true, ↓reduceIte, Nat.reduceEqDiff, Nat.reduceAdd, Nat.reduceMul, Nat.reduceSub, Nat.reduceLeDiff, Nat.reduceLT, Int.reduceLT, Int.reduceLE, Int.reduceEq, Int.reduceToNat, Int.reduceAdd, Int.reduceSub, Int.reduceNeg, Int.reduceBEq, Int.reduceBNe, Nat.reduceBEq, Int.cast_ofNat_Int, decide_true, decide_false, ne_eq, eq_self_iff_true, beq_eq_false_iff_ne, bne_iff_ne, List.replicate, encEv, encFl, *] <;> simp_all <;> done))
              | ((with_reducible refine back_in rest2.length [29, 30, 31, 32, 33, 34, 35, 36, 37, 38, 39, 40, 41, 42, 43, 44, 45, 46, 47, 48, 49] [] (pre2 ++ [x2], rest2, decide (x2.sender = x1.key)) ?_ ⟨?_, ?_, ?_⟩ ?_)
                 · simp
                 · exact cut_snoc he2.out
                 · rfl
                 · first | rfl | simp
                 · first | (simp -implicitDefEqProofs only [SD, SF, SL, e_nf, reduceCtorEq, implies_true, ↓reduceIte, Nat.reduceEqDiff, Nat.reduceAdd, Nat.reduceMul, Nat.reduceSub, Nat.reduceLeDiff, Nat.reduceLT, Int.reduceLT, Int.reduceLE, Int.reduceEq, Int.reduceToNat, Int.reduceAdd, Int.reduceSub, Int.reduceNeg, Int.reduceBEq, Int.reduceBNe, Nat.reduceBEq, Int.cast_ofNat_Int, decide_true, decide_false, ne_eq, eq_self_iff_true, beq_eq_false_iff_ne, bne_iff_ne, List.replicate, encEv, encFl] <;> simp <;> done) | (simp -implicitDefEqProofs only [SD, SF, SL, e_nf, reduceCtorEq, implies_true, ↓reduceIte, Nat.reduceEqDiff, Nat.reduceAdd, Nat.reduceMul, Nat.reduceSub, Nat.reduceLeDiff, Nat.reduceLT, Int.reduceLT, Int.reduceLE, Int.reduceEq, Int.reduceToNat, Int.reduceAdd, Int.reduceSub, Int.reduceNeg, Int.reduceBEq, Int.reduceBNe, Nat.reduceBEq, Int.cast_ofNat_Int, decide_true, decide_false, ne_eq, eq_self_iff_true, beq_eq_false_iff_ne, bne_iff_ne, List.replicate, encEv, encFl, *] <;> simp_all <;> done))
              | (with_reducible refine ite_in (fun _ => ?_) (fun _ => ?_))
              | (with_reducible refine ⟨fun _ => ?_, fun _ => ?_⟩)
              | (with_reducible refine And.intro ?_ ?_)
              | (with_reducible intro _)
              | (with_reducible exact is_in _)
              | (simp -implicitDefEqProofs only [SD, SF, SL, e_nf, reduceCtorEq, implies_true, ↓reduceIte, Nat.reduceEqDiff, Nat.reduceAdd, Nat.reduceMul, Nat.reduceSub, Nat.reduceLeDiff, Nat.reduceLT, Int.reduceLT, Int.reduceLE, Int.reduceEq, Int.reduceToNat, Int.reduceAdd, Int.reduceSub, Int.reduceNeg, Int.reduceBEq, Int.reduceBNe, Nat.reduceBEq, Int.cast_ofNat_Int, decide_true, decide_false, ne_eq, eq_self_iff_true, beq_eq_false_iff_ne, bne_iff_ne, List.replicate, encEv, encFl, *]))))
            all_goals (first | omega | (simp only [maxLen, List.length_append, List.length_map, List.length_cons, List.length_nil] <;> omega) | (simp_all; done))

end Go.Proofs.Ytamcbdflmephdaa.E
