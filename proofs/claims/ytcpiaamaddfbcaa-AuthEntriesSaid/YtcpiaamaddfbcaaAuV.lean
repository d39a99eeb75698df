/-
  AuV: walks of functions of the program at data level.
-/
import Derived.Test.YtcpiaamaddfbcaaProg
import Derived.Test.YtcpiaamaddfbcaaEngZ
import Derived.Test.YtcpiaamaddfbcaaAuS
import Derived.Test.YtcpiaamaddfbcaaAuT
import Derived.Test.YtcpiaamaddfbcaaAuU
import Derived.KernelRfl
set_option linter.unusedVariables false
set_option linter.unusedSimpArgs false
namespace Go.Proofs.Ytcpiaamaddfbcaa.E
open Go
set_option maxHeartbeats 4000000
set_option maxRecDepth 100000
set_option linter.unusedSimpArgs false
set_option linter.unusedVariables false
attribute [local congr] c_wp c_ops c_op c_opS c_run c_runS c_dt c_seq c_blk c_loop c_S c_put c_bind c_mv c_pick c_nt c_ng c_bin c_binI c_binS c_beq c_B c_eqa c_hd c_cells c_blkK c_box c_vec c_take c_ld c_ldF c_cellsK c_st c_fld c_fldv c_ix c_ixp c_ixv c_ixs c_sub c_subs c_len c_lens c_src c_dst c_ow c_app c_ext c_mm c_conv c_str c_isn c_fill c_rows c_boxo c_frz c_frzO c_frzA c_frzV c_spec c_specO c_opsP c_opP c_runP c_specP c_Z c_qretP c_fz c_fn c_gv c_cond c_res1 c_resL c_ret c_qret c_ite c_unr c_nx c_bk c_cut c_is
attribute [local irreducible] dwp
def ac8 : AC := (.seq (.ops [⟨(some 2), none, (.box (.t 0))⟩, ⟨(some 4), none, (.mv (.c (.bool false)))⟩]) (.seq (.seq (.ops [⟨(some 10), none, (.ld true 29 (.t 2))⟩, ⟨(some 11), none, (.call false 10 [(.t 10)])⟩, ⟨(some 12), none, (.nt (.t 11))⟩, ⟨(some 13), none, (.mv (.t 12))⟩, ⟨(some 14), (some (13, false)), (.mv (.t 1))⟩, ⟨(some 15), (some (13, false)), (.call false 11 [(.t 14)])⟩, ⟨(some 16), (some (13, false)), (.nt (.t 15))⟩, ⟨(some 17), none, (.pick (.t 13) (.c (.bool true)) (.t 16))⟩, ⟨(some 18), none, (.mv (.t 17))⟩, ⟨(some 19), (some (18, false)), (.fld 3 (.t 2))⟩, ⟨(some 20), (some (18, false)), (.ld false 1 (.t 19))⟩, ⟨(some 21), (some (18, false)), (.bin .neq (.t 20) (.c (.int .i64 2)))⟩, ⟨(some 22), none, (.pick (.t 18) (.c (.bool true)) (.t 21))⟩, ⟨(some 23), none, (.mv (.t 22))⟩, ⟨(some 24), (some (23, false)), (.fld 10 (.t 2))⟩, ⟨(some 25), (some (23, false)), (.fld 1 (.t 24))⟩, ⟨(some 26), (some (23, false)), (.ld false 1 (.t 25))⟩, ⟨(some 27), (some (23, false)), (.bin .neq (.t 26) (.c (.int .i64 3)))⟩, ⟨(some 28), none, (.pick (.t 23) (.c (.bool true)) (.t 27))⟩, ⟨(some 29), none, (.mv (.t 28))⟩, ⟨(some 30), (some (29, false)), (.ld true 29 (.t 2))⟩, ⟨(some 31), (some (29, false)), (.mv (.t 1))⟩, ⟨(some 32), (some (29, false)), (.call false 13 [(.t 30), (.t 31)])⟩, ⟨(some 33), (some (29, false)), (.bin .neq (.t 32) (.c (.int .i64 0)))⟩, ⟨(some 34), none, (.pick (.t 29) (.c (.bool true)) (.t 33))⟩]) (.cond (.t 34) (.seq (.ops [⟨(some 35), none, (.call false 12 [])⟩, ⟨(some 4), none, (.mv (.t 35))⟩]) .ret) .skip)) (.seq (.ops [⟨(some 37), none, (.mv (.t 1))⟩, ⟨(some 38), none, (.call false 22 [(.t 37)])⟩, ⟨(some 36), none, (.mv (.t 38))⟩, ⟨(some 39), none, (.ext (.t 36) 0)⟩, ⟨(some 40), none, (.ext (.t 36) 1)⟩, ⟨(some 5), none, (.alloc [(.int .i64 0), (.str []), (.str []), (.int .i64 0), (.bool false), (.str []), (.int .i64 0), (.int .i64 0), .e0, .e0, (.str []), (.int .i64 0), (.int .i64 0), (.bool false), (.str []), .e0, .e0, .e0, .e0, (.int .i64 0), (.int .i64 0), (.int .i64 0), (.int .i64 0), (.int .i64 0), (.int .i64 0), (.int .i64 0), (.int .i64 0), (.str []), (.int .i64 0)])⟩, ⟨none, none, (.sto 29 (.t 5) (.t 39))⟩, ⟨(some 6), none, (.mv (.t 40))⟩]) (.seq (.ops [⟨(some 41), none, (.mv (.t 1))⟩, ⟨(some 42), none, (.fld 5 (.t 2))⟩, ⟨(some 43), none, (.ld false 1 (.t 42))⟩, ⟨(some 44), none, (.call false 19 [(.t 41), (.t 43)])⟩, ⟨(some 7), none, (.mv (.t 44))⟩]) (.seq (.ops [⟨(some 8), none, (.mv (.c (.int .i64 0)))⟩]) (.seq (.seq (.ops [⟨(some 45), none, (.mv (.t 1))⟩, ⟨(some 46), none, (.len (.t 45))⟩, ⟨(some 47), none, (.bin .sub (.t 46) (.c (.int .i64 1)))⟩, ⟨(some 9), none, (.mv (.t 47))⟩]) (.block 0 (.loop (.seq (.seq (.ops [⟨(some 48), none, (.mv (.t 9))⟩, ⟨(some 49), none, (.bin .geq (.t 48) (.c (.int .i64 0)))⟩]) (.cond (.t 49) .skip (.exit 0))) (.seq (.block 1 (.seq (.ops [⟨(some 52), none, (.mv (.t 1))⟩, ⟨(some 53), none, (.mv (.t 9))⟩, ⟨(some 54), none, (.ix 29 (.t 52) (.t 53))⟩, ⟨(some 55), none, (.fld 3 (.t 54))⟩, ⟨(some 56), none, (.ld false 1 (.t 55))⟩, ⟨(some 57), none, (.bin .eql (.t 56) (.c (.int .i64 4)))⟩]) (.cond (.t 57) (.ops [⟨(some 58), none, (.mv (.t 1))⟩, ⟨(some 59), none, (.mv (.t 9))⟩, ⟨(some 60), none, (.ix 29 (.t 58) (.t 59))⟩, ⟨(some 61), none, (.fld 10 (.t 60))⟩, ⟨(some 62), none, (.fld 1 (.t 61))⟩, ⟨(some 63), none, (.ld false 1 (.t 62))⟩, ⟨(some 8), none, (.mv (.t 63))⟩]) .skip))) (.ops [⟨(some 50), none, (.mv (.t 9))⟩, ⟨(some 51), none, (.bin .sub (.t 50) (.c (.int .i64 1)))⟩, ⟨(some 9), none, (.mv (.t 51))⟩])))))) (.seq (.ops [⟨(some 64), none, (.fld 5 (.t 2))⟩, ⟨(some 65), none, (.ld false 1 (.t 64))⟩, ⟨(some 66), none, (.fld 2 (.t 2))⟩, ⟨(some 67), none, (.ld false 1 (.t 66))⟩, ⟨(some 68), none, (.bin .eql (.t 65) (.t 67))⟩, ⟨(some 69), none, (.mv (.t 68))⟩, ⟨(some 70), (some (69, true)), (.mv (.t 7))⟩, ⟨(some 71), (some (69, true)), (.bin .neq (.t 70) (.c (.int .i64 4)))⟩, ⟨(some 72), none, (.pick (.t 69) (.t 71) (.c (.bool false)))⟩, ⟨(some 73), none, (.mv (.t 72))⟩, ⟨(some 74), (some (73, true)), (.mv (.t 7))⟩, ⟨(some 75), (some (73, true)), (.bin .eql (.t 74) (.c (.int .i64 3)))⟩, ⟨(some 76), (some (73, true)), (.mv (.t 75))⟩, ⟨(some 77), (some (76, false)), (.mv (.t 7))⟩, ⟨(some 78), (some (76, false)), (.bin .eql (.t 77) (.c (.int .i64 1)))⟩, ⟨(some 79), (some (73, true)), (.pick (.t 76) (.c (.bool true)) (.t 78))⟩, ⟨(some 80), (some (73, true)), (.mv (.t 79))⟩, ⟨(some 81), (some (80, false)), (.mv (.t 8))⟩, ⟨(some 82), (some (80, false)), (.bin .eql (.t 81) (.c (.int .i64 1)))⟩, ⟨(some 83), (some (73, true)), (.pick (.t 80) (.c (.bool true)) (.t 82))⟩, ⟨(some 84), (some (73, true)), (.mv (.t 83))⟩, ⟨(some 85), (some (84, false)), (.fld 2 (.t 2))⟩, ⟨(some 86), (some (84, false)), (.ld false 1 (.t 85))⟩, ⟨(some 87), (some (84, false)), (.fld 2 (.t 5))⟩, ⟨(some 88), (some (84, false)), (.ld false 1 (.t 87))⟩, ⟨(some 89), (some (84, false)), (.bin .eql (.t 86) (.t 88))⟩, ⟨(some 90), (some (84, false)), (.mv (.t 89))⟩, ⟨(some 91), (some (90, true)), (.mv (.t 1))⟩, ⟨(some 92), (some (90, true)), (.fld 5 (.t 2))⟩, ⟨(some 93), (some (90, true)), (.ld false 1 (.t 92))⟩, ⟨(some 94), (some (90, true)), (.call false 23 [(.t 91), (.t 93)])⟩, ⟨(some 95), (some (90, true)), (.nt (.t 94))⟩, ⟨(some 96), (some (84, false)), (.pick (.t 90) (.t 95) (.c (.bool false)))⟩, ⟨(some 97), (some (73, true)), (.pick (.t 84) (.c (.bool true)) (.t 96))⟩, ⟨(some 98), none, (.pick (.t 73) (.t 97) (.c (.bool false)))⟩, ⟨(some 99), none, (.mv (.t 98))⟩, ⟨(some 100), (some (99, true)), (.call false 12 [])⟩, ⟨(some 101), none, (.pick (.t 99) (.t 100) (.c (.bool false)))⟩, ⟨(some 4), none, (.mv (.t 101))⟩]) .ret)))))))
theorem tr8 : Try.f8.body.bind (trCode Try.prog) = some (strip ac8) := by kernel_rfl
theorem spec8 (e : Ev) (es : List Ev) : Spec Try.prog 8 [.fz (.agg (encEv e)), .fz (.sl 29 (es.map encEv))] (.fz (.bool true)) := by
  refine spec_at (n := 100) (ars := [(.t 4)]) (ac := ac8) Try.func8 (by kernel_rfl) (by kernel_rfl) tr8 (by kernel_rfl) ?_
  unfold ac8
  cases hbe : briefB e
  · skip
    iterate 30 (all_goals (try (first
      | ((with_reducible refine of_kSpec ?_)
         refine call_sub (ds' := [.agg (encEv e)]) (spec10 e) rfl ?_ ?_
         · simp -implicitDefEqProofs only [SD, SF, SL, e_nf, reduceCtorEq, implies_true, ↓reduceIte, Nat.reduceEqDiff, Nat.reduceAdd, Nat.reduceMul, Nat.reduceSub, Nat.reduceLeDiff, Nat.reduceLT, Int.reduceLT, Int.reduceLE, Int.reduceEq, Int.reduceToNat, Int.reduceAdd, Int.reduceSub, Int.reduceNeg, Int.reduceBEq, Int.reduceBNe, Nat.reduceBEq, Int.cast_ofNat_Int, decide_true, decide_false, ne_eq, eq_self_iff_true, beq_eq_false_iff_ne, bne_iff_ne, List.replicate, encEv, *]
           done)
      | ((with_reducible refine of_kSpec ?_); refine call_fz (spec11 es) rfl ?_)
      | ((with_reducible refine of_kSpec ?_); refine call_fz (spec12) rfl ?_)
      | (with_reducible refine ite_in (fun _ => ?_) (fun _ => ?_))
      | (with_reducible refine ⟨fun _ => ?_, fun _ => ?_⟩)
      | (with_reducible refine And.intro ?_ ?_)
      | (with_reducible intro _)
      | (with_reducible exact is_in _)
      | (simp -implicitDefEqProofs only [SD, SF, SL, e_nf, reduceCtorEq, implies_true, ↓reduceIte, Nat.reduceEqDiff, Nat.reduceAdd, Nat.reduceMul, Nat.reduceSub, Nat.reduceLeDiff, Nat.reduceLT, Int.reduceLT, Int.reduceLE, Int.reduceEq, Int.reduceToNat, Int.reduceAdd, Int.reduceSub, Int.reduceNeg, Int.reduceBEq, Int.reduceBNe, Nat.reduceBEq, Int.cast_ofNat_Int, decide_true, decide_false, ne_eq, eq_self_iff_true, beq_eq_false_iff_ne, bne_iff_ne, List.replicate, encEv, *]))))
  cases hfe : fewB es
  · skip
    iterate 30 (all_goals (try (first
      | ((with_reducible refine of_kSpec ?_)
         refine call_sub (ds' := [.agg (encEv e)]) (spec10 e) rfl ?_ ?_
         · simp -implicitDefEqProofs only [SD, SF, SL, e_nf, reduceCtorEq, implies_true, ↓reduceIte, Nat.reduceEqDiff, Nat.reduceAdd, Nat.reduceMul, Nat.reduceSub, Nat.reduceLeDiff, Nat.reduceLT, Int.reduceLT, Int.reduceLE, Int.reduceEq, Int.reduceToNat, Int.reduceAdd, Int.reduceSub, Int.reduceNeg, Int.reduceBEq, Int.reduceBNe, Nat.reduceBEq, Int.cast_ofNat_Int, decide_true, decide_false, ne_eq, eq_self_iff_true, beq_eq_false_iff_ne, bne_iff_ne, List.replicate, encEv, *]
           done)
      | ((with_reducible refine of_kSpec ?_); refine call_fz (spec11 es) rfl ?_)
      | ((with_reducible refine of_kSpec ?_); refine call_fz (spec12) rfl ?_)
      | (with_reducible refine ite_in (fun _ => ?_) (fun _ => ?_))
      | (with_reducible refine ⟨fun _ => ?_, fun _ => ?_⟩)
      | (with_reducible refine And.intro ?_ ?_)
      | (with_reducible intro _)
      | (with_reducible exact is_in _)
      | (simp -implicitDefEqProofs only [SD, SF, SL, e_nf, reduceCtorEq, implies_true, ↓reduceIte, Nat.reduceEqDiff, Nat.reduceAdd, Nat.reduceMul, Nat.reduceSub, Nat.reduceLeDiff, Nat.reduceLT, Int.reduceLT, Int.reduceLE, Int.reduceEq, Int.reduceToNat, Int.reduceAdd, Int.reduceSub, Int.reduceNeg, Int.reduceBEq, Int.reduceBNe, Nat.reduceBEq, Int.cast_ofNat_Int, decide_true, decide_false, ne_eq, eq_self_iff_true, beq_eq_false_iff_ne, bne_iff_ne, List.replicate, encEv, *]))))
  obtain ⟨hs, hae, hbe1, hk⟩ := brief_b hbe
  obtain ⟨ha, hb, hL, h40⟩ := few_b hfe
  have hw0 : IntKind.i64.wrap ((es.length : Int) - 1) = (es.length : Int) - 1 := wrap_in (by omega) (by omega)
  iterate 30 (all_goals (try (first
    | ((with_reducible refine of_kSpec ?_)
       refine call_sub (ds' := [.agg (encEv e)]) (spec10 e) rfl ?_ ?_
       · simp -implicitDefEqProofs only [SD, SF, SL, e_nf, reduceCtorEq, implies_true, ↓reduceIte, Nat.reduceEqDiff, Nat.reduceAdd, Nat.reduceMul, Nat.reduceSub, Nat.reduceLeDiff, Nat.reduceLT, Int.reduceLT, Int.reduceLE, Int.reduceEq, Int.reduceToNat, Int.reduceAdd, Int.reduceSub, Int.reduceNeg, Int.reduceBEq, Int.reduceBNe, Nat.reduceBEq, Int.cast_ofNat_Int, decide_true, decide_false, ne_eq, eq_self_iff_true, beq_eq_false_iff_ne, bne_iff_ne, List.replicate, encEv, *]
         done)
    | ((with_reducible refine of_kSpec ?_); refine call_fz (spec11 es) rfl ?_)
    | ((with_reducible refine of_kSpec ?_); refine call_fz (spec12) rfl ?_)
    | ((with_reducible refine of_kSpec ?_)
       refine call_sub (ds' := [.agg (encEv e), .sl 29 (es.map encEv)]) (spec13 e es ha hb hs) rfl ?_ ?_
       · simp -implicitDefEqProofs only [SD, SF, SL, e_nf, reduceCtorEq, implies_true, ↓reduceIte, Nat.reduceEqDiff, Nat.reduceAdd, Nat.reduceMul, Nat.reduceSub, Nat.reduceLeDiff, Nat.reduceLT, Int.reduceLT, Int.reduceLE, Int.reduceEq, Int.reduceToNat, Int.reduceAdd, Int.reduceSub, Int.reduceNeg, Int.reduceBEq, Int.reduceBNe, Nat.reduceBEq, Int.cast_ofNat_Int, decide_true, decide_false, ne_eq, eq_self_iff_true, beq_eq_false_iff_ne, bne_iff_ne, List.replicate, encEv, *]
         done)
    | ((with_reducible refine of_kSpec ?_); refine call_fz (spec22 es) rfl ?_)
    | ((with_reducible refine of_kSpec ?_); refine call_fz (spec19 es _) rfl ?_)
    | ((with_reducible refine of_kSpec ?_); refine call_fz (spec23 es _) rfl ?_)
    | ((with_reducible refine of_kSpec ?_); refine call_fz (spec12) rfl ?_)
    | (with_reducible refine ite_in (fun _ => ?_) (fun _ => ?_))
    | (with_reducible refine ⟨fun _ => ?_, fun _ => ?_⟩)
    | (with_reducible refine And.intro ?_ ?_)
    | (with_reducible intro _)
    | (with_reducible exact is_in _)
    | (simp -implicitDefEqProofs only [SD, SF, SL, e_nf, reduceCtorEq, implies_true, ↓reduceIte, Nat.reduceEqDiff, Nat.reduceAdd, Nat.reduceMul, Nat.reduceSub, Nat.reduceLeDiff, Nat.reduceLT, Int.reduceLT, Int.reduceLE, Int.reduceEq, Int.reduceToNat, Int.reduceAdd, Int.reduceSub, Int.reduceNeg, Int.reduceBEq, Int.reduceBNe, Nat.reduceBEq, Int.cast_ofNat_Int, decide_true, decide_false, ne_eq, eq_self_iff_true, beq_eq_false_iff_ne, bne_iff_ne, List.replicate, encEv, *]))))
  have hE := entries1 (e := e) (es := es) (by assumption) (by assumption) (by assumption)
  refine loop_q (X := List Ev × List Ev × Int) (fun n x => es = x.1 ++ x.2.1 ∧ n = x.1.length ∧ x.2.2 = (x.1.length : Int) - 1) (fun x => [(8, .int .i64 (rulesL x.2.1).1), (9, .int .i64 x.2.2)]) (fun _ => []) [48, 49, 50, 51, 52, 53, 54, 55, 56, 57, 58, 59, 60, 61, 62, 63] [] es.length (es, [], (es.length : Int) - 1) ⟨by simp, rfl, rfl⟩ ?_ ?_
  · simp -implicitDefEqProofs only [SD, SF, SL, e_nf, reduceCtorEq, implies_true, ↓reduceIte, Nat.reduceEqDiff, Nat.reduceAdd, Nat.reduceMul, Nat.reduceSub, Nat.reduceLeDiff, Nat.reduceLT, Int.reduceLT, Int.reduceLE, Int.reduceEq, Int.reduceToNat, Int.reduceAdd, Int.reduceSub, Int.reduceNeg, Int.reduceBEq, Int.reduceBNe, Nat.reduceBEq, Int.cast_ofNat_Int, decide_true, decide_false, ne_eq, eq_self_iff_true, beq_eq_false_iff_ne, bne_iff_ne, List.replicate, rulesL] <;> simp
  · rintro n ⟨pre, don, i⟩ ⟨he, rfl, hi⟩
    dsimp only at he hi
    rcases List.eq_nil_or_concat pre with rfl | ⟨pre', x, rfl⟩
    · obtain rfl : es = don := by simpa using he
      clear he
      obtain rfl : i = -1 := by simpa using hi
      have hm1 : ¬ ((0 : Int) ≤ -1) := by decide
      iterate 60 (all_goals (try (first
        | ((with_reducible refine of_kSpec ?_)
           refine call_sub (ds' := [.agg (encEv e), .sl 29 (es.map encEv)]) (spec13 e es ha hb hs) rfl ?_ ?_
           · simp -implicitDefEqProofs only [SD, SF, SL, e_nf, reduceCtorEq, implies_true, ↓reduceIte, Nat.reduceEqDiff, Nat.reduceAdd, Nat.reduceMul, Nat.reduceSub, Nat.reduceLeDiff, Nat.reduceLT, Int.reduceLT, Int.reduceLE, Int.reduceEq, Int.reduceToNat, Int.reduceAdd, Int.reduceSub, Int.reduceNeg, Int.reduceBEq, Int.reduceBNe, Nat.reduceBEq, Int.cast_ofNat_Int, decide_true, decide_false, ne_eq, eq_self_iff_true, beq_eq_false_iff_ne, bne_iff_ne, List.replicate, encEv, *]
             done)
        | ((with_reducible refine of_kSpec ?_); refine call_fz (spec22 es) rfl ?_)
        | ((with_reducible refine of_kSpec ?_); refine call_fz (spec19 es _) rfl ?_)
        | ((with_reducible refine of_kSpec ?_); refine call_fz (spec23 es _) rfl ?_)
        | ((with_reducible refine of_kSpec ?_); refine call_fz (spec12) rfl ?_)
        | (with_reducible refine ite_in (fun _ => ?_) (fun _ => ?_))
        | (with_reducible refine ⟨fun _ => ?_, fun _ => ?_⟩)
        | (with_reducible refine And.intro ?_ ?_)
        | (with_reducible intro _)
        | (with_reducible exact is_in _)
        | (simp -implicitDefEqProofs only [SD, SF, SL, e_nf, reduceCtorEq, implies_true, ↓reduceIte, Nat.reduceEqDiff, Nat.reduceAdd, Nat.reduceMul, Nat.reduceSub, Nat.reduceLeDiff, Nat.reduceLT, Int.reduceLT, Int.reduceLE, Int.reduceEq, Int.reduceToNat, Int.reduceAdd, Int.reduceSub, Int.reduceNeg, Int.reduceBEq, Int.reduceBNe, Nat.reduceBEq, Int.cast_ofNat_Int, decide_true, decide_false, ne_eq, eq_self_iff_true, beq_eq_false_iff_ne, bne_iff_ne, List.replicate, encEv, *]))))
      all_goals (first
        | (simp_all; done)
        | (obtain ⟨h1, h2, h3⟩ := hE
           rw [← h1] at h3
           simp_all
           done)
        | (obtain ⟨h1, h2, h3⟩ := hE
           simp_all
           omega))
    · rw [List.concat_eq_append] at he hi
      replace he : es = pre' ++ x :: don := by simpa using he
      obtain rfl : i = pre'.length := by
        simp at hi
        omega
      clear hi
      have hlt := cut_lt he
      have hx := cutD encEv he
      simp only [encEv] at hx
      have hge : (0 : Int) ≤ pre'.length := by omega
      have hw : IntKind.i64.wrap ((pre'.length : Int) - 1) = (pre'.length : Int) - 1 := wrap_in (by omega) (by omega)
      replace he := Hd.mk he
      clear hE
      iterate 30 (all_goals (try (first
        | ((with_reducible refine back_in pre'.length [48, 49, 50, 51, 52, 53, 54, 55, 56, 57, 58, 59, 60, 61, 62, 63] [] (pre', x :: don, (pre'.length : Int) - 1) ?_ ⟨?_, ?_, ?_⟩ ?_)
           · simp
           · exact he.out
           · rfl
           · rfl
           · first | (simp -implicitDefEqProofs only [SD, SF, SL, e_nf, reduceCtorEq, implies_true, ↓reduceIte, Nat.reduceEqDiff, Nat.reduceAdd, Nat.reduceMul, Nat.reduceSub, Nat.reduceLeDiff, Nat.reduceLT, Int.reduceLT, Int.reduceLE, Int.reduceEq, Int.reduceToNat, Int.reduceAdd, Int.reduceSub, Int.reduceNeg, Int.reduceBEq, Int.reduceBNe, Nat.reduceBEq, Int.cast_ofNat_Int, decide_true, decide_false, ne_eq, eq_self_iff_true, beq_eq_false_iff_ne, bne_iff_ne, List.replicate, rulesL, *] <;> simp <;> done) | (simp -implicitDefEqProofs only [SD, SF, SL, e_nf, reduceCtorEq, implies_true, ↓reduceIte, Nat.reduceEqDiff, Nat.reduceAdd, Nat.reduceMul, Nat.reduceSub, Nat.reduceLeDiff, Nat.reduceLT, Int.reduceLT, Int.reduceLE, Int.reduceEq, Int.reduceToNat, Int.reduceAdd, Int.reduceSub, Int.reduceNeg, Int.reduceBEq, Int.reduceBNe, Nat.reduceBEq, Int.cast_ofNat_Int, decide_true, decide_false, ne_eq, eq_self_iff_true, beq_eq_false_iff_ne, bne_iff_ne, List.replicate, rulesL, *] <;> simp_all <;> done))
        | (with_reducible refine ite_in (fun _ => ?_) (fun _ => ?_))
        | (with_reducible refine ⟨fun _ => ?_, fun _ => ?_⟩)
        | (with_reducible refine And.intro ?_ ?_)
        | (with_reducible intro _)
        | (with_reducible exact is_in _)
        | (simp -implicitDefEqProofs only [SD, SF, SL, e_nf, reduceCtorEq, implies_true, ↓reduceIte, Nat.reduceEqDiff, Nat.reduceAdd, Nat.reduceMul, Nat.reduceSub, Nat.reduceLeDiff, Nat.reduceLT, Int.reduceLT, Int.reduceLE, Int.reduceEq, Int.reduceToNat, Int.reduceAdd, Int.reduceSub, Int.reduceNeg, Int.reduceBEq, Int.reduceBNe, Nat.reduceBEq, Int.cast_ofNat_Int, decide_true, decide_false, ne_eq, eq_self_iff_true, beq_eq_false_iff_ne, bne_iff_ne, List.replicate, *]))))


end Go.Proofs.Ytcpiaamaddfbcaa.E
