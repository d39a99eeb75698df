/-
  RbD: walks of functions of the program at data level.
-/
import Derived.Test.YthackanfbemabaaProg
import Derived.Test.YthackanfbemabaaEngZ
import Derived.Test.YthackanfbemabaaRbC
import Derived.KernelRfl
set_option linter.unusedVariables false
set_option linter.unusedSimpArgs false
namespace Go.Proofs.Ythackanfbemabaa.E
open Go
set_option maxHeartbeats 4000000
set_option maxRecDepth 100000
set_option linter.unusedSimpArgs false
set_option linter.unusedVariables false
attribute [local congr] c_wp c_ops c_op c_opS c_run c_runS c_dt c_seq c_blk c_loop c_S c_put c_bind c_mv c_pick c_nt c_ng c_bin c_binI c_binS c_beq c_B c_eqa c_hd c_cells c_blkK c_box c_vec c_take c_ld c_ldF c_cellsK c_st c_fld c_fldv c_ix c_ixp c_ixv c_ixs c_sub c_subs c_len c_lens c_src c_dst c_ow c_app c_ext c_mm c_conv c_str c_isn c_fill c_rows c_boxo c_frz c_frzO c_frzA c_frzV c_spec c_specO c_fz c_fn c_gv c_cond c_res1 c_resL c_ret c_qret c_ite c_unr c_nx c_bk c_cut c_is
attribute [local irreducible] dwp

theorem levels_hc (zs : List Ev) (c : List UInt8) (h : creatorL zs = c) : levelsL zs = (match findL zs 3 with | some e => e.lv | none => dflt c) := by rw [← h]; rfl
def ac34 : AC := (.seq (.ops [⟨(some 2), none, (.alloc [.e0, .e0, (.int .i64 0), (.int .i64 0), (.int .i64 0), (.int .i64 0), (.int .i64 0), (.int .i64 0), (.int .i64 0)])⟩, ⟨(some 3), none, (.mv (.c (.str [])))⟩]) (.seq (.ops [⟨(some 4), none, (.mv (.c (.str [])))⟩]) (.seq (.ops [⟨(some 5), none, (.mv (.c (.bool false)))⟩]) (.seq (.seq (.ops [⟨(some 6), none, (.mv (.c (.int .i64 0)))⟩]) (.block 0 (.loop (.seq (.seq (.ops [⟨(some 8), none, (.mv (.t 6))⟩, ⟨(some 9), none, (.mv (.t 0))⟩, ⟨(some 10), none, (.len (.t 9))⟩, ⟨(some 11), none, (.bin .lss (.t 8) (.t 10))⟩, ⟨(some 12), none, (.mv (.t 11))⟩, ⟨(some 13), (some (12, true)), (.mv (.t 5))⟩, ⟨(some 14), (some (12, true)), (.nt (.t 13))⟩, ⟨(some 15), none, (.pick (.t 12) (.t 14) (.c (.bool false)))⟩]) (.cond (.t 15) .skip (.exit 0))) (.seq (.block 1 (.seq (.ops [⟨(some 18), none, (.mv (.t 0))⟩, ⟨(some 19), none, (.mv (.t 6))⟩, ⟨(some 20), none, (.ix 29 (.t 18) (.t 19))⟩, ⟨(some 21), none, (.fld 3 (.t 20))⟩, ⟨(some 22), none, (.ld false 1 (.t 21))⟩, ⟨(some 23), none, (.bin .eql (.t 22) (.c (.int .i64 1)))⟩]) (.cond (.t 23) (.seq (.ops [⟨(some 24), none, (.mv (.t 0))⟩, ⟨(some 25), none, (.mv (.t 6))⟩, ⟨(some 26), none, (.ix 29 (.t 24) (.t 25))⟩, ⟨(some 27), none, (.fld 2 (.t 26))⟩, ⟨(some 28), none, (.ld false 1 (.t 27))⟩, ⟨(some 4), none, (.mv (.t 28))⟩]) (.ops [⟨(some 5), none, (.mv (.c (.bool true)))⟩])) .skip))) (.ops [⟨(some 16), none, (.mv (.t 6))⟩, ⟨(some 17), none, (.bin .add (.t 16) (.c (.int .i64 1)))⟩, ⟨(some 6), none, (.mv (.t 17))⟩])))))) (.seq (.seq (.ops [⟨(some 7), none, (.mv (.c (.int .i64 0)))⟩]) (.block 2 (.loop (.seq (.seq (.ops [⟨(some 29), none, (.mv (.t 7))⟩, ⟨(some 30), none, (.mv (.t 0))⟩, ⟨(some 31), none, (.len (.t 30))⟩, ⟨(some 32), none, (.bin .lss (.t 29) (.t 31))⟩]) (.cond (.t 32) .skip (.exit 2))) (.seq (.block 3 (.seq (.ops [⟨(some 35), none, (.mv (.t 0))⟩, ⟨(some 36), none, (.mv (.t 7))⟩, ⟨(some 37), none, (.ix 29 (.t 35) (.t 36))⟩, ⟨(some 38), none, (.fld 3 (.t 37))⟩, ⟨(some 39), none, (.ld false 1 (.t 38))⟩, ⟨(some 40), none, (.bin .eql (.t 39) (.c (.int .i64 3)))⟩]) (.cond (.t 40) (.seq (.ops [⟨(some 41), none, (.mv (.t 0))⟩, ⟨(some 42), none, (.mv (.t 7))⟩, ⟨(some 43), none, (.ix 29 (.t 41) (.t 42))⟩, ⟨(some 44), none, (.fld 10 (.t 43))⟩, ⟨(some 45), none, (.fld 7 (.t 44))⟩, ⟨(some 46), none, (.ld true 9 (.t 45))⟩, ⟨(some 47), none, (.mv (.t 4))⟩, ⟨none, none, (.sto 9 (.t 2) (.t 46))⟩, ⟨(some 3), none, (.mv (.t 47))⟩]) .ret) .skip))) (.ops [⟨(some 33), none, (.mv (.t 7))⟩, ⟨(some 34), none, (.bin .add (.t 33) (.c (.int .i64 1)))⟩, ⟨(some 7), none, (.mv (.t 34))⟩])))))) (.seq (.ops [⟨(some 48), none, (.mv (.t 4))⟩, ⟨(some 49), none, (.call false 32 [(.t 48)])⟩, ⟨(some 50), none, (.mv (.t 4))⟩, ⟨none, none, (.sto 9 (.t 2) (.t 49))⟩, ⟨(some 3), none, (.mv (.t 50))⟩]) .ret))))))
theorem tr34 : Try.f34.body.bind (trCode Try.prog) = some (strip ac34) := by kernel_rfl
theorem spec34 (es : List Ev) : Spec Try.prog 34 [.fz (.sl 29 (es.map encEv))] (.fz (.tup [.agg (encLv (levelsL es)), .str (creatorL es)])) := by
  refine spec_at (n := 50) (ars := [(.c true 9 2), (.t 3)]) (ac := ac34) Try.func34 (by kernel_rfl) (by kernel_rfl) tr34 (by kernel_rfl) ?_
  unfold ac34
  simp -implicitDefEqProofs only [SD, SF, SL, e_nf, reduceCtorEq, implies_true, ↓reduceIte, Nat.reduceEqDiff, Nat.reduceAdd, Nat.reduceMul, Nat.reduceSub, Nat.reduceLeDiff, Nat.reduceLT, Int.reduceLT, Int.reduceLE, Int.reduceEq, Int.reduceToNat, Int.reduceAdd, Int.reduceSub, Int.reduceNeg, Int.reduceBEq, Int.reduceBNe, Nat.reduceBEq, Int.cast_ofNat_Int, decide_true, decide_false, ne_eq, eq_self_iff_true, beq_eq_false_iff_ne, bne_iff_ne, List.replicate]
  refine loop_q (X := List Ev × List Ev × (List UInt8 × Bool)) (fun n x => es = x.1 ++ x.2.1 ∧ n = x.2.1.length ∧ (creatorL es = (if x.2.2.2 = true then x.2.2.1 else creatorL x.2.1) ∧ (x.2.2.2 = false → x.2.2.1 = []))) (fun x => [(6, .int .i64 x.1.length), (4, .str x.2.2.1), (5, .bool x.2.2.2)]) (fun _ => []) [8, 9, 10, 11, 12, 13, 14, 15, 16, 17, 18, 19, 20, 21, 22, 23, 24, 25, 26, 27, 28] [] (es).length ([], es, ([], false)) ⟨rfl, rfl, by first | rfl | assumption | (simp_all [findL, creatorL]; done) | grind [findL, creatorL]⟩ ?_ ?_
  · simp -implicitDefEqProofs only [SD, SF, SL, e_nf, reduceCtorEq, implies_true, ↓reduceIte, Nat.reduceEqDiff, Nat.reduceAdd, Nat.reduceMul, Nat.reduceSub, Nat.reduceLeDiff, Nat.reduceLT, Int.reduceLT, Int.reduceLE, Int.reduceEq, Int.reduceToNat, Int.reduceAdd, Int.reduceSub, Int.reduceNeg, Int.reduceBEq, Int.reduceBNe, Nat.reduceBEq, Int.cast_ofNat_Int, decide_true, decide_false, ne_eq, eq_self_iff_true, beq_eq_false_iff_ne, bne_iff_ne, List.replicate, findL, creatorL] <;> simp
  · rintro n ⟨pre1, rest1, a1⟩ ⟨he1, rfl, hI1⟩
    dsimp only at he1 hI1
    cases rest1 with
    | nil =>
      obtain rfl : es = pre1 := by simpa using he1
      clear he1
      have hlt1 : ¬ (((es).length : Int) < ((es).length : Int)) := Int.lt_irrefl _
      iterate 30 (all_goals (try (first
        | (with_reducible refine ite_in (fun _ => ?_) (fun _ => ?_))
        | (with_reducible refine ⟨fun _ => ?_, fun _ => ?_⟩)
        | (with_reducible refine And.intro ?_ ?_)
        | (with_reducible intro _)
        | (with_reducible exact is_in _)
        | (simp -implicitDefEqProofs only [SD, SF, SL, e_nf, reduceCtorEq, implies_true, ↓reduceIte, Nat.reduceEqDiff, Nat.reduceAdd, Nat.reduceMul, Nat.reduceSub, Nat.reduceLeDiff, Nat.reduceLT, Int.reduceLT, Int.reduceLE, Int.reduceEq, Int.reduceToNat, Int.reduceAdd, Int.reduceSub, Int.reduceNeg, Int.reduceBEq, Int.reduceBNe, Nat.reduceBEq, Int.cast_ofNat_Int, decide_true, decide_false, ne_eq, eq_self_iff_true, beq_eq_false_iff_ne, bne_iff_ne, List.replicate, findL, creatorL, *]))))
      have hc : creatorL es = a1.1 := by rcases a1 with ⟨c0, _ | _⟩ <;> simp_all [creatorL, findL]
      clear hI1
      refine loop_q (X := List Ev × List Ev × Unit) (fun n x => es = x.1 ++ x.2.1 ∧ n = x.2.1.length ∧ (findL es 3 = findL x.2.1 3)) (fun x => [(7, .int .i64 x.1.length)]) (fun _ => []) [3, 29, 30, 31, 32, 33, 34, 35, 36, 37, 38, 39, 40, 41, 42, 43, 44, 45, 46, 47] [] (es).length ([], es, ()) ⟨rfl, rfl, by first | rfl | assumption | (simp_all [findL]; done) | grind [findL]⟩ ?_ ?_
      · simp -implicitDefEqProofs only [SD, SF, SL, e_nf, reduceCtorEq, implies_true, ↓reduceIte, Nat.reduceEqDiff, Nat.reduceAdd, Nat.reduceMul, Nat.reduceSub, Nat.reduceLeDiff, Nat.reduceLT, Int.reduceLT, Int.reduceLE, Int.reduceEq, Int.reduceToNat, Int.reduceAdd, Int.reduceSub, Int.reduceNeg, Int.reduceBEq, Int.reduceBNe, Nat.reduceBEq, Int.cast_ofNat_Int, decide_true, decide_false, ne_eq, eq_self_iff_true, beq_eq_false_iff_ne, bne_iff_ne, List.replicate, findL, encLv] <;> simp
      · rintro n ⟨pre2, rest2, a2⟩ ⟨he2, rfl, hI2⟩
        dsimp only at he2 hI2
        cases rest2 with
        | nil =>
          obtain rfl : es = pre2 := by simpa using he2
          clear he2
          have hlt2 : ¬ (((es).length : Int) < ((es).length : Int)) := Int.lt_irrefl _
          iterate 30 (all_goals (try (first
            | ((with_reducible refine of_kSpec ?_); refine call_fz (spec32 _) rfl ?_)
            | (with_reducible refine ite_in (fun _ => ?_) (fun _ => ?_))
            | (with_reducible refine ⟨fun _ => ?_, fun _ => ?_⟩)
            | (with_reducible refine And.intro ?_ ?_)
            | (with_reducible intro _)
            | (with_reducible exact is_in _)
            | (simp -implicitDefEqProofs only [SD, SF, SL, e_nf, reduceCtorEq, implies_true, ↓reduceIte, Nat.reduceEqDiff, Nat.reduceAdd, Nat.reduceMul, Nat.reduceSub, Nat.reduceLeDiff, Nat.reduceLT, Int.reduceLT, Int.reduceLE, Int.reduceEq, Int.reduceToNat, Int.reduceAdd, Int.reduceSub, Int.reduceNeg, Int.reduceBEq, Int.reduceBNe, Nat.reduceBEq, Int.cast_ofNat_Int, decide_true, decide_false, ne_eq, eq_self_iff_true, beq_eq_false_iff_ne, bne_iff_ne, List.replicate, findL, encLv, *]))))
          all_goals (simp_all [levelsL, findL, encLv])

        | cons x2 rest2 =>
          have hlt2 := cut_lt he2
          have hx2 := cutD encEv he2
          simp only [encEv] at hx2
          simp -implicitDefEqProofs only [SD, SF, SL, e_nf, reduceCtorEq, implies_true, ↓reduceIte, Nat.reduceEqDiff, Nat.reduceAdd, Nat.reduceMul, Nat.reduceSub, Nat.reduceLeDiff, Nat.reduceLT, Int.reduceLT, Int.reduceLE, Int.reduceEq, Int.reduceToNat, Int.reduceAdd, Int.reduceSub, Int.reduceNeg, Int.reduceBEq, Int.reduceBNe, Nat.reduceBEq, Int.cast_ofNat_Int, decide_true, decide_false, ne_eq, eq_self_iff_true, beq_eq_false_iff_ne, bne_iff_ne, List.replicate, findL, encLv, hlt2]
          intro hl
          have hw2 := wrap_len (n := pre2.length) (m := (es).length) (cut_lt' he2) (by simpa using hl)
          replace he2 := Hd.mk he2
          iterate 30 (all_goals (try (first
            | ((with_reducible refine back_in rest2.length [3, 29, 30, 31, 32, 33, 34, 35, 36, 37, 38, 39, 40, 41, 42, 43, 44, 45, 46, 47] [] (pre2 ++ [x2], rest2, a2) ?_ ⟨?_, ?_, ?_⟩ ?_)
               · simp
               · exact cut_snoc he2.out
               · rfl
               · first | rfl | assumption | (simp_all [findL]; done) | grind [findL]
               · first | (simp -implicitDefEqProofs only [SD, SF, SL, e_nf, reduceCtorEq, implies_true, ↓reduceIte, Nat.reduceEqDiff, Nat.reduceAdd, Nat.reduceMul, Nat.reduceSub, Nat.reduceLeDiff, Nat.reduceLT, Int.reduceLT, Int.reduceLE, Int.reduceEq, Int.reduceToNat, Int.reduceAdd, Int.reduceSub, Int.reduceNeg, Int.reduceBEq, Int.reduceBNe, Nat.reduceBEq, Int.cast_ofNat_Int, decide_true, decide_false, ne_eq, eq_self_iff_true, beq_eq_false_iff_ne, bne_iff_ne, List.replicate, findL, encLv] <;> simp <;> done) | (simp -implicitDefEqProofs only [SD, SF, SL, e_nf, reduceCtorEq, implies_true, ↓reduceIte, Nat.reduceEqDiff, Nat.reduceAdd, Nat.reduceMul, Nat.reduceSub, Nat.reduceLeDiff, Nat.reduceLT, Int.reduceLT, Int.reduceLE, Int.reduceEq, Int.reduceToNat, Int.reduceAdd, Int.reduceSub, Int.reduceNeg, Int.reduceBEq, Int.reduceBNe, Nat.reduceBEq, Int.cast_ofNat_Int, decide_true, decide_false, ne_eq, eq_self_iff_true, beq_eq_false_iff_ne, bne_iff_ne, List.replicate, findL, encLv, *] <;> simp_all <;> done))
            | ((with_reducible refine of_kSpec ?_); refine call_fz (spec32 _) rfl ?_)
            | (with_reducible refine ite_in (fun _ => ?_) (fun _ => ?_))
            | (with_reducible refine ⟨fun _ => ?_, fun _ => ?_⟩)
            | (with_reducible refine And.intro ?_ ?_)
            | (with_reducible intro _)
            | (with_reducible exact is_in _)
            | (simp -implicitDefEqProofs only [SD, SF, SL, e_nf, reduceCtorEq, implies_true, ↓reduceIte, Nat.reduceEqDiff, Nat.reduceAdd, Nat.reduceMul, Nat.reduceSub, Nat.reduceLeDiff, Nat.reduceLT, Int.reduceLT, Int.reduceLE, Int.reduceEq, Int.reduceToNat, Int.reduceAdd, Int.reduceSub, Int.reduceNeg, Int.reduceBEq, Int.reduceBNe, Nat.reduceBEq, Int.cast_ofNat_Int, decide_true, decide_false, ne_eq, eq_self_iff_true, beq_eq_false_iff_ne, bne_iff_ne, List.replicate, findL, encLv, *]))))
          all_goals (simp_all [levelsL, findL, encLv])
    | cons x1 rest1 =>
      have hlt1 := cut_lt he1
      have hx1 := cutD encEv he1
      simp only [encEv] at hx1
      simp -implicitDefEqProofs only [SD, SF, SL, e_nf, reduceCtorEq, implies_true, ↓reduceIte, Nat.reduceEqDiff, Nat.reduceAdd, Nat.reduceMul, Nat.reduceSub, Nat.reduceLeDiff, Nat.reduceLT, Int.reduceLT, Int.reduceLE, Int.reduceEq, Int.reduceToNat, Int.reduceAdd, Int.reduceSub, Int.reduceNeg, Int.reduceBEq, Int.reduceBNe, Nat.reduceBEq, Int.cast_ofNat_Int, decide_true, decide_false, ne_eq, eq_self_iff_true, beq_eq_false_iff_ne, bne_iff_ne, List.replicate, findL, creatorL, hlt1]
      intro hl
      have hw1 := wrap_len (n := pre1.length) (m := (es).length) (cut_lt' he1) (by simpa using hl)
      replace he1 := Hd.mk he1
      cases ha : a1.2
      all_goals (simp -implicitDefEqProofs only [SD, SF, SL, e_nf, reduceCtorEq, implies_true, ↓reduceIte, Nat.reduceEqDiff, Nat.reduceAdd, Nat.reduceMul, Nat.reduceSub, Nat.reduceLeDiff, Nat.reduceLT, Int.reduceLT, Int.reduceLE, Int.reduceEq, Int.reduceToNat, Int.reduceAdd, Int.reduceSub, Int.reduceNeg, Int.reduceBEq, Int.reduceBNe, Nat.reduceBEq, Int.cast_ofNat_Int, decide_true, decide_false, ne_eq, eq_self_iff_true, beq_eq_false_iff_ne, bne_iff_ne, List.replicate, *])
      iterate 30 (all_goals (try (first
        | ((with_reducible refine back_in rest1.length [8, 9, 10, 11, 12, 13, 14, 15, 16, 17, 18, 19, 20, 21, 22, 23, 24, 25, 26, 27, 28] [] (pre1 ++ [x1], rest1, a1) ?_ ⟨?_, ?_, ?_⟩ ?_)
           · simp
           · exact cut_snoc he1.out
           · rfl
           · first | rfl | assumption | (simp_all [findL, creatorL]; done) | grind [findL, creatorL]
           · first | (simp -implicitDefEqProofs only [SD, SF, SL, e_nf, reduceCtorEq, implies_true, ↓reduceIte, Nat.reduceEqDiff, Nat.reduceAdd, Nat.reduceMul, Nat.reduceSub, Nat.reduceLeDiff, Nat.reduceLT, Int.reduceLT, Int.reduceLE, Int.reduceEq, Int.reduceToNat, Int.reduceAdd, Int.reduceSub, Int.reduceNeg, Int.reduceBEq, Int.reduceBNe, Nat.reduceBEq, Int.cast_ofNat_Int, decide_true, decide_false, ne_eq, eq_self_iff_true, beq_eq_false_iff_ne, bne_iff_ne, List.replicate, findL, creatorL] <;> simp <;> done) | (simp -implicitDefEqProofs only [SD, SF, SL, e_nf, reduceCtorEq, implies_true, ↓reduceIte, Nat.reduceEqDiff, Nat.reduceAdd, Nat.reduceMul, Nat.reduceSub, Nat.reduceLeDiff, Nat.reduceLT, Int.reduceLT, Int.reduceLE, Int.reduceEq, Int.reduceToNat, Int.reduceAdd, Int.reduceSub, Int.reduceNeg, Int.reduceBEq, Int.reduceBNe, Nat.reduceBEq, Int.cast_ofNat_Int, decide_true, decide_false, ne_eq, eq_self_iff_true, beq_eq_false_iff_ne, bne_iff_ne, List.replicate, findL, creatorL, *] <;> simp_all <;> done))
        | ((with_reducible refine back_in rest1.length [8, 9, 10, 11, 12, 13, 14, 15, 16, 17, 18, 19, 20, 21, 22, 23, 24, 25, 26, 27, 28] [] (pre1 ++ [x1], rest1, (x1.sender, true)) ?_ ⟨?_, ?_, ?_⟩ ?_)
           · simp
           · exact cut_snoc he1.out
           · rfl
           · first | rfl | assumption | (simp_all [findL, creatorL]; done) | grind [findL, creatorL]
           · first | (simp -implicitDefEqProofs only [SD, SF, SL, e_nf, reduceCtorEq, implies_true, ↓reduceIte, Nat.reduceEqDiff, Nat.reduceAdd, Nat.reduceMul, Nat.reduceSub, Nat.reduceLeDiff, Nat.reduceLT, Int.reduceLT, Int.reduceLE, Int.reduceEq, Int.reduceToNat, Int.reduceAdd, Int.reduceSub, Int.reduceNeg, Int.reduceBEq, Int.reduceBNe, Nat.reduceBEq, Int.cast_ofNat_Int, decide_true, decide_false, ne_eq, eq_self_iff_true, beq_eq_false_iff_ne, bne_iff_ne, List.replicate, findL, creatorL] <;> simp <;> done) | (simp -implicitDefEqProofs only [SD, SF, SL, e_nf, reduceCtorEq, implies_true, ↓reduceIte, Nat.reduceEqDiff, Nat.reduceAdd, Nat.reduceMul, Nat.reduceSub, Nat.reduceLeDiff, Nat.reduceLT, Int.reduceLT, Int.reduceLE, Int.reduceEq, Int.reduceToNat, Int.reduceAdd, Int.reduceSub, Int.reduceNeg, Int.reduceBEq, Int.reduceBNe, Nat.reduceBEq, Int.cast_ofNat_Int, decide_true, decide_false, ne_eq, eq_self_iff_true, beq_eq_false_iff_ne, bne_iff_ne, List.replicate, findL, creatorL, *] <;> simp_all <;> done))
        | (with_reducible refine ite_in (fun _ => ?_) (fun _ => ?_))
        | (with_reducible refine ⟨fun _ => ?_, fun _ => ?_⟩)
        | (with_reducible refine And.intro ?_ ?_)
        | (with_reducible intro _)
        | (with_reducible exact is_in _)
        | (simp -implicitDefEqProofs only [SD, SF, SL, e_nf, reduceCtorEq, implies_true, ↓reduceIte, Nat.reduceEqDiff, Nat.reduceAdd, Nat.reduceMul, Nat.reduceSub, Nat.reduceLeDiff, Nat.reduceLT, Int.reduceLT, Int.reduceLE, Int.reduceEq, Int.reduceToNat, Int.reduceAdd, Int.reduceSub, Int.reduceNeg, Int.reduceBEq, Int.reduceBNe, Nat.reduceBEq, Int.cast_ofNat_Int, decide_true, decide_false, ne_eq, eq_self_iff_true, beq_eq_false_iff_ne, bne_iff_ne, List.replicate, findL, creatorL, *]))))
      have hc : creatorL es = a1.1 := by simp_all
      clear hI1 hlt1 hx1 hw1 ha
      refine loop_q (X := List Ev × List Ev × Unit) (fun n x => es = x.1 ++ x.2.1 ∧ n = x.2.1.length ∧ (findL es 3 = findL x.2.1 3)) (fun x => [(7, .int .i64 x.1.length)]) (fun _ => []) [3, 29, 30, 31, 32, 33, 34, 35, 36, 37, 38, 39, 40, 41, 42, 43, 44, 45, 46, 47] [] (es).length ([], es, ()) ⟨rfl, rfl, by first | rfl | assumption | (simp_all [findL]; done) | grind [findL]⟩ ?_ ?_
      · simp -implicitDefEqProofs only [SD, SF, SL, e_nf, reduceCtorEq, implies_true, ↓reduceIte, Nat.reduceEqDiff, Nat.reduceAdd, Nat.reduceMul, Nat.reduceSub, Nat.reduceLeDiff, Nat.reduceLT, Int.reduceLT, Int.reduceLE, Int.reduceEq, Int.reduceToNat, Int.reduceAdd, Int.reduceSub, Int.reduceNeg, Int.reduceBEq, Int.reduceBNe, Nat.reduceBEq, Int.cast_ofNat_Int, decide_true, decide_false, ne_eq, eq_self_iff_true, beq_eq_false_iff_ne, bne_iff_ne, List.replicate, findL, encLv] <;> simp
      · rintro n ⟨pre2, rest2, a2⟩ ⟨he2, rfl, hI2⟩
        dsimp only at he2 hI2
        cases rest2 with
        | nil =>
          obtain rfl : es = pre2 := by simpa using he2
          clear he2
          have hlt2 : ¬ (((es).length : Int) < ((es).length : Int)) := Int.lt_irrefl _
          iterate 30 (all_goals (try (first
            | ((with_reducible refine of_kSpec ?_); refine call_fz (spec32 _) rfl ?_)
            | (with_reducible refine ite_in (fun _ => ?_) (fun _ => ?_))
            | (with_reducible refine ⟨fun _ => ?_, fun _ => ?_⟩)
            | (with_reducible refine And.intro ?_ ?_)
            | (with_reducible intro _)
            | (with_reducible exact is_in _)
            | (simp -implicitDefEqProofs only [SD, SF, SL, e_nf, reduceCtorEq, implies_true, ↓reduceIte, Nat.reduceEqDiff, Nat.reduceAdd, Nat.reduceMul, Nat.reduceSub, Nat.reduceLeDiff, Nat.reduceLT, Int.reduceLT, Int.reduceLE, Int.reduceEq, Int.reduceToNat, Int.reduceAdd, Int.reduceSub, Int.reduceNeg, Int.reduceBEq, Int.reduceBNe, Nat.reduceBEq, Int.cast_ofNat_Int, decide_true, decide_false, ne_eq, eq_self_iff_true, beq_eq_false_iff_ne, bne_iff_ne, List.replicate, findL, encLv, *]))))
          all_goals (simp_all [levelsL, findL, encLv])

        | cons x2 rest2 =>
          have hlt2 := cut_lt he2
          have hx2 := cutD encEv he2
          simp only [encEv] at hx2
          simp -implicitDefEqProofs only [SD, SF, SL, e_nf, reduceCtorEq, implies_true, ↓reduceIte, Nat.reduceEqDiff, Nat.reduceAdd, Nat.reduceMul, Nat.reduceSub, Nat.reduceLeDiff, Nat.reduceLT, Int.reduceLT, Int.reduceLE, Int.reduceEq, Int.reduceToNat, Int.reduceAdd, Int.reduceSub, Int.reduceNeg, Int.reduceBEq, Int.reduceBNe, Nat.reduceBEq, Int.cast_ofNat_Int, decide_true, decide_false, ne_eq, eq_self_iff_true, beq_eq_false_iff_ne, bne_iff_ne, List.replicate, findL, encLv, hlt2]
          intro hl
          have hw2 := wrap_len (n := pre2.length) (m := (es).length) (cut_lt' he2) (by simpa using hl)
          replace he2 := Hd.mk he2
          iterate 30 (all_goals (try (first
            | ((with_reducible refine back_in rest2.length [3, 29, 30, 31, 32, 33, 34, 35, 36, 37, 38, 39, 40, 41, 42, 43, 44, 45, 46, 47] [] (pre2 ++ [x2], rest2, a2) ?_ ⟨?_, ?_, ?_⟩ ?_)
               · simp
               · exact cut_snoc he2.out
               · rfl
               · first | rfl | assumption | (simp_all [findL]; done) | grind [findL]
               · first | (simp -implicitDefEqProofs only [SD, SF, SL, e_nf, reduceCtorEq, implies_true, ↓reduceIte, Nat.reduceEqDiff, Nat.reduceAdd, Nat.reduceMul, Nat.reduceSub, Nat.reduceLeDiff, Nat.reduceLT, Int.reduceLT, Int.reduceLE, Int.reduceEq, Int.reduceToNat, Int.reduceAdd, Int.reduceSub, Int.reduceNeg, Int.reduceBEq, Int.reduceBNe, Nat.reduceBEq, Int.cast_ofNat_Int, decide_true, decide_false, ne_eq, eq_self_iff_true, beq_eq_false_iff_ne, bne_iff_ne, List.replicate, findL, encLv] <;> simp <;> done) | (simp -implicitDefEqProofs only [SD, SF, SL, e_nf, reduceCtorEq, implies_true, ↓reduceIte, Nat.reduceEqDiff, Nat.reduceAdd, Nat.reduceMul, Nat.reduceSub, Nat.reduceLeDiff, Nat.reduceLT, Int.reduceLT, Int.reduceLE, Int.reduceEq, Int.reduceToNat, Int.reduceAdd, Int.reduceSub, Int.reduceNeg, Int.reduceBEq, Int.reduceBNe, Nat.reduceBEq, Int.cast_ofNat_Int, decide_true, decide_false, ne_eq, eq_self_iff_true, beq_eq_false_iff_ne, bne_iff_ne, List.replicate, findL, encLv, *] <;> simp_all <;> done))
            | ((with_reducible refine of_kSpec ?_); refine call_fz (spec32 _) rfl ?_)
            | (with_reducible refine ite_in (fun _ => ?_) (fun _ => ?_))
            | (with_reducible refine ⟨fun _ => ?_, fun _ => ?_⟩)
            | (with_reducible refine And.intro ?_ ?_)
            | (with_reducible intro _)
            | (with_reducible exact is_in _)
            | (simp -implicitDefEqProofs only [SD, SF, SL, e_nf, reduceCtorEq, implies_true, ↓reduceIte, Nat.reduceEqDiff, Nat.reduceAdd, Nat.reduceMul, Nat.reduceSub, Nat.reduceLeDiff, Nat.reduceLT, Int.reduceLT, Int.reduceLE, Int.reduceEq, Int.reduceToNat, Int.reduceAdd, Int.reduceSub, Int.reduceNeg, Int.reduceBEq, Int.reduceBNe, Nat.reduceBEq, Int.cast_ofNat_Int, decide_true, decide_false, ne_eq, eq_self_iff_true, beq_eq_false_iff_ne, bne_iff_ne, List.replicate, findL, encLv, *]))))
          all_goals (simp_all [levelsL, findL, encLv])

end Go.Proofs.Ythackanfbemabaa.E
