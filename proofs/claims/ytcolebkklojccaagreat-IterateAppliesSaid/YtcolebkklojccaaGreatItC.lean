/-
  ItC: walks of functions of the program at data level.
-/
import Derived.Test.YtcolebkklojccaaGreatProg
import Derived.Test.YtcolebkklojccaaGreatEngZ
import Derived.Test.YtcolebkklojccaaGreatItB
import Derived.KernelRfl
set_option linter.unusedVariables false
set_option linter.unusedSimpArgs false
namespace Go.Proofs.YtcolebkklojccaaGreat.E
open Go
set_option maxHeartbeats 4000000
set_option maxRecDepth 100000
set_option linter.unusedSimpArgs false
set_option linter.unusedVariables false
attribute [local congr] c_wp c_ops c_op c_opS c_run c_runS c_dt c_seq c_blk c_loop c_S c_put c_bind c_mv c_pick c_nt c_ng c_bin c_binI c_binS c_beq c_B c_eqa c_hd c_cells c_blkK c_box c_vec c_mp c_nck c_mks c_appn c_mkm c_mput c_mlk c_mrm c_take c_ld c_ldF c_cellsK c_st c_fld c_fldv c_ix c_ixp c_ixv c_ixs c_sub c_subs c_len c_lens c_src c_dst c_ow c_app c_ext c_mm c_conv c_str c_isn c_fill c_rows c_boxo c_frz c_frzO c_frzA c_frzV c_spec c_specO c_opsP c_opP c_runP c_specP c_Z c_qretP c_fz c_fn c_gv c_cond c_res1 c_resL c_ret c_qret c_ite c_unr c_nx c_bk c_cut c_is
attribute [local irreducible] dwp
def ac59 : AC := (.seq (.ops [⟨(some 6), none, (.mv (.c .e0))⟩]) (.seq (.ops [⟨(some 7), none, (.mv (.c (.int .i64 0)))⟩]) (.seq (.block 0 (.loop (.seq (.seq (.ops [⟨(some 9), none, (.mv (.t 7))⟩, ⟨(some 10), none, (.mv (.t 0))⟩, ⟨(some 11), none, (.len (.t 10))⟩, ⟨(some 12), none, (.bin .lss (.t 9) (.t 11))⟩, ⟨(some 13), none, (.mv (.t 12))⟩, ⟨(some 14), (some (13, true)), (.mv (.t 0))⟩, ⟨(some 15), (some (13, true)), (.mv (.t 7))⟩, ⟨(some 16), (some (13, true)), (.ix 3 (.t 14) (.t 15))⟩, ⟨(some 17), (some (13, true)), (.fld 0 (.t 16))⟩, ⟨(some 18), (some (13, true)), (.ld false 1 (.t 17))⟩, ⟨(some 19), (some (13, true)), (.mv (.t 1))⟩, ⟨(some 20), (some (13, true)), (.bin .lss (.t 18) (.t 19))⟩, ⟨(some 21), (some (13, true)), (.mv (.t 20))⟩, ⟨(some 22), (some (21, false)), (.mv (.t 0))⟩, ⟨(some 23), (some (21, false)), (.mv (.t 7))⟩, ⟨(some 24), (some (21, false)), (.ix 3 (.t 22) (.t 23))⟩, ⟨(some 25), (some (21, false)), (.fld 0 (.t 24))⟩, ⟨(some 26), (some (21, false)), (.ld false 1 (.t 25))⟩, ⟨(some 27), (some (21, false)), (.mv (.t 1))⟩, ⟨(some 28), (some (21, false)), (.bin .eql (.t 26) (.t 27))⟩, ⟨(some 29), (some (21, false)), (.mv (.t 28))⟩, ⟨(some 30), (some (29, true)), (.mv (.t 0))⟩, ⟨(some 31), (some (29, true)), (.mv (.t 7))⟩, ⟨(some 32), (some (29, true)), (.ix 3 (.t 30) (.t 31))⟩, ⟨(some 33), (some (29, true)), (.fld 1 (.t 32))⟩, ⟨(some 34), (some (29, true)), (.ld false 1 (.t 33))⟩, ⟨(some 35), (some (29, true)), (.mv (.t 2))⟩, ⟨(some 36), (some (29, true)), (.bin .lss (.t 34) (.t 35))⟩, ⟨(some 37), (some (21, false)), (.pick (.t 29) (.t 36) (.c (.bool false)))⟩, ⟨(some 38), (some (13, true)), (.pick (.t 21) (.c (.bool true)) (.t 37))⟩, ⟨(some 39), none, (.pick (.t 13) (.t 38) (.c (.bool false)))⟩]) (.cond (.t 39) .skip (.exit 0))) (.block 1 (.ops [⟨(some 40), none, (.mv (.t 7))⟩, ⟨(some 41), none, (.bin .add (.t 40) (.c (.int .i64 1)))⟩, ⟨(some 7), none, (.mv (.t 41))⟩]))))) (.seq (.seq (.ops [⟨(some 42), none, (.mv (.t 7))⟩, ⟨(some 43), none, (.mv (.t 0))⟩, ⟨(some 44), none, (.len (.t 43))⟩, ⟨(some 45), none, (.bin .lss (.t 42) (.t 44))⟩, ⟨(some 46), none, (.mv (.t 45))⟩, ⟨(some 47), (some (46, true)), (.mv (.t 0))⟩, ⟨(some 48), (some (46, true)), (.mv (.t 7))⟩, ⟨(some 49), (some (46, true)), (.ix 3 (.t 47) (.t 48))⟩, ⟨(some 50), (some (46, true)), (.fld 0 (.t 49))⟩, ⟨(some 51), (some (46, true)), (.ld false 1 (.t 50))⟩, ⟨(some 52), (some (46, true)), (.mv (.t 1))⟩, ⟨(some 53), (some (46, true)), (.bin .eql (.t 51) (.t 52))⟩, ⟨(some 54), none, (.pick (.t 46) (.t 53) (.c (.bool false)))⟩, ⟨(some 55), none, (.mv (.t 54))⟩, ⟨(some 56), (some (55, true)), (.mv (.t 0))⟩, ⟨(some 57), (some (55, true)), (.mv (.t 7))⟩, ⟨(some 58), (some (55, true)), (.ix 3 (.t 56) (.t 57))⟩, ⟨(some 59), (some (55, true)), (.fld 1 (.t 58))⟩, ⟨(some 60), (some (55, true)), (.ld false 1 (.t 59))⟩, ⟨(some 61), (some (55, true)), (.mv (.t 2))⟩, ⟨(some 62), (some (55, true)), (.bin .eql (.t 60) (.t 61))⟩, ⟨(some 63), none, (.pick (.t 55) (.t 62) (.c (.bool false)))⟩]) (.cond (.t 63) (.seq (.ops [⟨(some 64), none, (.mv (.t 0))⟩, ⟨(some 6), none, (.mv (.t 64))⟩]) .ret) .skip)) (.seq (.ops [⟨(some 65), none, (.buildSl 49 3 0 [(.int .i64 0), (.str []), (.int .i64 0)] [])⟩, ⟨(some 66), none, (.mv (.t 0))⟩, ⟨(some 67), none, (.mv (.t 7))⟩, ⟨(some 68), none, (.sub 3 (.t 66) none (some (.t 67)) none)⟩, ⟨(some 69), none, (.app 49 3 32 (.t 65) (.t 68))⟩, ⟨(some 8), none, (.mv (.t 69))⟩]) (.seq (.ops [⟨(some 70), none, (.mv (.t 8))⟩, ⟨(some 71), none, (.mv (.t 1))⟩, ⟨(some 72), none, (.mv (.t 2))⟩, ⟨(some 73), none, (.build [(.int .i64 0), (.str []), (.int .i64 0)] [(0, (1, (.t 71))), (1, (1, (.t 72)))])⟩, ⟨(some 74), none, (.buildSl 49 3 1 [(.int .i64 0), (.str []), (.int .i64 0)] [(0, (.t 73))])⟩, ⟨(some 75), none, (.app 49 3 32 (.t 70) (.t 74))⟩, ⟨(some 8), none, (.mv (.t 75))⟩]) (.seq (.ops [⟨(some 76), none, (.mv (.t 8))⟩, ⟨(some 77), none, (.mv (.t 0))⟩, ⟨(some 78), none, (.mv (.t 7))⟩, ⟨(some 79), none, (.sub 3 (.t 77) (some (.t 78)) none none)⟩, ⟨(some 80), none, (.app 49 3 32 (.t 76) (.t 79))⟩, ⟨(some 6), none, (.mv (.t 80))⟩]) .ret)))))))
theorem tr59 : Tryz.f59.body.bind (trCode Tryz.prog) = some (strip ac59) := by kernel_rfl
theorem spec59 (l : List Ent) (k : Int) (u : List UInt8) (hb : l.length ≤ 1000) (hz : allZ l) : Spec Tryz.prog 59 [.fz (.sl 3 (l.map encEnt)), .fz (.int .i64 k), .fz (.str u)] (.fz (.sl 3 ((setS l ⟨k, u, 0⟩).map encEnt))) := by
  refine spec_at (n := 78) (ars := [(.t 6)]) (ac := ac59) Tryz.func59 (by kernel_rfl) (by kernel_rfl) tr59 (by kernel_rfl) ?_
  unfold ac59
  iterate 6 (all_goals (try (first
    | (with_reducible refine ite_in (fun _ => ?_) (fun _ => ?_))
    | (with_reducible refine ⟨fun _ => ?_, fun _ => ?_⟩)
    | (with_reducible refine And.intro ?_ ?_)
    | (with_reducible intro _)
    | (with_reducible exact is_in _)
    | (simp -implicitDefEqProofs only [SD, SF, SL, e_nf, reduceCtorEq, implies_true, ↓reduceIte, Nat.reduceEqDiff, Nat.reduceAdd, Nat.reduceMul, Nat.reduceSub, Nat.reduceLeDiff, Nat.reduceLT, Int.reduceLT, Int.reduceLE, Int.reduceEq, Int.reduceToNat, Int.reduceAdd, Int.reduceSub, Int.reduceNeg, Int.reduceBEq, Int.reduceBNe, Nat.reduceBEq, Int.cast_ofNat_Int, decide_true, decide_false, ne_eq, eq_self_iff_true, beq_eq_false_iff_ne, bne_iff_ne, List.replicate, encEnt, *]))))
  refine loop_q (X := List Ent × List Ent × Unit) (fun n x => l = x.1 ++ x.2.1 ∧ n = x.2.1.length ∧ (x.1.all (bq ⟨k, u, 0⟩) = true)) (fun x => [(7, .int .i64 x.1.length)]) (fun _ => []) [9, 10, 11, 12, 13, 14, 15, 16, 17, 18, 19, 20, 21, 22, 23, 24, 25, 26, 27, 28, 29, 30, 31, 32, 33, 34, 35, 36, 37, 38, 39, 40, 41] []  (l).length ([], l, ()) ⟨rfl, rfl, by rfl⟩ ?_ ?_
  · simp -implicitDefEqProofs only [SD, SF, SL, e_nf, reduceCtorEq, implies_true, ↓reduceIte, Nat.reduceEqDiff, Nat.reduceAdd, Nat.reduceMul, Nat.reduceSub, Nat.reduceLeDiff, Nat.reduceLT, Int.reduceLT, Int.reduceLE, Int.reduceEq, Int.reduceToNat, Int.reduceAdd, Int.reduceSub, Int.reduceNeg, Int.reduceBEq, Int.reduceBNe, Nat.reduceBEq, Int.cast_ofNat_Int, decide_true, decide_false, ne_eq, eq_self_iff_true, beq_eq_false_iff_ne, bne_iff_ne, List.replicate, encEnt, List.length_map] <;> simp
  · rintro n ⟨pre, rest, a⟩ ⟨he, rfl, hI⟩
    dsimp only at he hI
    cases rest with
    | nil =>
      obtain rfl : l = pre := by simpa using he
      clear he
      have hlt : ¬ (((l).length : Int) < ((l).length : Int)) := Int.lt_irrefl _
      have hst : setS l ⟨k, u, 0⟩ = l ++ [⟨k, u, 0⟩] := set_end hI
      have htk : (l.map encEnt).take l.length = l.map encEnt := List.take_of_length_le (by simp)
      have hdr : (l.map encEnt).drop l.length = [] := List.drop_eq_nil_of_le (by simp)
      have g1 : l.length ≤ maxLen := by simp only [maxLen]; omega
      have g2 : l.length * 32 ≤ 140737488355328 := by omega
      have g3 : l.length + 1 ≤ maxLen := by simp only [maxLen]; omega
      have g4 : (l.length + 1) * 32 ≤ 140737488355328 := by omega
      clear hI
      iterate 60 (all_goals (try (first
        | (with_reducible refine ite_in (fun _ => ?_) (fun _ => ?_))
        | (with_reducible refine ⟨fun _ => ?_, fun _ => ?_⟩)
        | (with_reducible refine And.intro ?_ ?_)
        | (with_reducible intro _)
        | (with_reducible exact is_in _)
        | (simp -implicitDefEqProofs only [SD, SF, SL, e_nf, reduceCtorEq, implies_true, ↓reduceIte, Nat.reduceEqDiff, Nat.reduceAdd, Nat.reduceMul, Nat.reduceSub, Nat.reduceLeDiff, Nat.reduceLT, Int.reduceLT, Int.reduceLE, Int.reduceEq, Int.reduceToNat, Int.reduceAdd, Int.reduceSub, Int.reduceNeg, Int.reduceBEq, Int.reduceBNe, Nat.reduceBEq, Int.cast_ofNat_Int, decide_true, decide_false, ne_eq, eq_self_iff_true, beq_eq_false_iff_ne, bne_iff_ne, List.replicate, encEnt, List.length_map, *]))))
      all_goals (first
        | rfl
        | (left; simp [encEnt]; done)
        | (left; simp [encEnt, hD1]; done)
        | omega
        | (simp only [maxLen, List.length_append, List.length_map, List.length_cons, List.length_nil] <;> omega)
        | (have := hll.out; simp only [maxLen, List.length_append, List.length_map, List.length_cons, List.length_nil] <;> omega)
        | (simp_all; done)
        | (simp_all; omega)
        | trace_state)

    | cons x rest =>
      have hlt := cut_lt he
      have hx := cutD encEnt he
      simp only [encEnt] at hx
      simp -implicitDefEqProofs only [SD, SF, SL, e_nf, reduceCtorEq, implies_true, ↓reduceIte, Nat.reduceEqDiff, Nat.reduceAdd, Nat.reduceMul, Nat.reduceSub, Nat.reduceLeDiff, Nat.reduceLT, Int.reduceLT, Int.reduceLE, Int.reduceEq, Int.reduceToNat, Int.reduceAdd, Int.reduceSub, Int.reduceNeg, Int.reduceBEq, Int.reduceBNe, Nat.reduceBEq, Int.cast_ofNat_Int, decide_true, decide_false, ne_eq, eq_self_iff_true, beq_eq_false_iff_ne, bne_iff_ne, List.replicate, encEnt, List.length_map, hlt]
      intro hl
      have hw := wrap_len (n := pre.length) (m := (l).length) (cut_lt' he) (by simp only [maxLen]; omega)
      replace he := Hd.mk he
      rcases ent_tri x k u with hA | ⟨hB1, hB2⟩ | ⟨hC1, hC2⟩ | ⟨hD1, hD2, hD3, hD4⟩ | ⟨hE1, hE2, hE3⟩
      case' inl =>
        have hbt : bq ⟨k, u, 0⟩ x = true := by simp [bq, precB, hA]
      case' inr.inl =>
        have hbt : bq ⟨k, u, 0⟩ x = true := by simp [bq, precB, hB1, hB2]
        have hn1 : ¬ x.kind < k := by omega
      case' inr.inr.inl =>
        have hn1 : ¬ x.kind < k := by omega
        have hn2 : Op.bytesLess x.key u = false := by rw [hC2]; exact blt_irr u
        have hx0 : x = ⟨k, u, 0⟩ := by
          have h0 := hz x (by rw [he.out]; simp)
          cases x
          simp only at hC1 hC2 h0
          rw [hC1, hC2, h0]
        have hst : setS l ⟨k, u, 0⟩ = l := hx0 ▸ set_same he.out (hx0 ▸ hI)
        replace hx0 := Hd.mk hx0
        have hbt : True := trivial
      case' inr.inr.inr.inl =>
        have hn1 : ¬ x.kind < k := by omega
        have hst : setS l ⟨k, u, 0⟩ = pre ++ ⟨k, u, 0⟩ :: x :: rest := by rw [set_mid he.out hI (by simp [bq, precB, hD1, hD2]), if_neg (by simp [precB, hD1, hD4])]
        have hbt : True := trivial
      case' inr.inr.inr.inr =>
        have hst : setS l ⟨k, u, 0⟩ = pre ++ ⟨k, u, 0⟩ :: x :: rest := by rw [set_mid he.out hI (by simp [bq, precB, hE1, hE2]), if_neg (by simp [precB, hE3])]
        have hbt : True := trivial
      all_goals (have hll : l.length = pre.length + (rest.length + 1) := by rw [he.out]; simp)
      all_goals (have htk : (l.map encEnt).take pre.length = pre.map encEnt := by rw [he.out]; simp)
      all_goals (have hdr : (l.map encEnt).drop pre.length = encEnt x :: rest.map encEnt := by rw [he.out]; simp)
      all_goals (have htl : (l.map encEnt).take l.length = l.map encEnt := List.take_of_length_le (by simp))
      all_goals (have hle1 : pre.length ≤ l.length := by omega)
      all_goals (have g1 : pre.length ≤ maxLen := by simp only [maxLen]; omega)
      all_goals (have g2 : pre.length * 32 ≤ 140737488355328 := by omega)
      all_goals (have g3 : pre.length + 1 ≤ maxLen := by simp only [maxLen]; omega)
      all_goals (have g4 : (pre.length + 1) * 32 ≤ 140737488355328 := by omega)
      all_goals (replace hll := Hd.mk hll)
      all_goals (simp only [encEnt] at hdr)
      all_goals (replace hI := Hd.mk hI)
      all_goals (replace hbt := Hd.mk hbt)
      iterate 60 (all_goals (try (first
        | ((with_reducible refine back_in rest.length [9, 10, 11, 12, 13, 14, 15, 16, 17, 18, 19, 20, 21, 22, 23, 24, 25, 26, 27, 28, 29, 30, 31, 32, 33, 34, 35, 36, 37, 38, 39, 40, 41] [] (pre ++ [x], rest, a) ?_ ⟨?_, ?_, ?_⟩ ?_)
           · simp
           · exact cut_snoc he.out
           · rfl
           · first | rfl | (simp only [List.all_append, List.all_cons, List.all_nil, Bool.and_true, Bool.and_eq_true]; exact ⟨hI.out, hbt.out⟩)
           · first | (simp -implicitDefEqProofs only [SD, SF, SL, e_nf, reduceCtorEq, implies_true, ↓reduceIte, Nat.reduceEqDiff, Nat.reduceAdd, Nat.reduceMul, Nat.reduceSub, Nat.reduceLeDiff, Nat.reduceLT, Int.reduceLT, Int.reduceLE, Int.reduceEq, Int.reduceToNat, Int.reduceAdd, Int.reduceSub, Int.reduceNeg, Int.reduceBEq, Int.reduceBNe, Nat.reduceBEq, Int.cast_ofNat_Int, decide_true, decide_false, ne_eq, eq_self_iff_true, beq_eq_false_iff_ne, bne_iff_ne, List.replicate, encEnt, List.length_map] <;> simp <;> done) | (simp -implicitDefEqProofs only [SD, SF, SL, e_nf, reduceCtorEq, implies_true, ↓reduceIte, Nat.reduceEqDiff, Nat.reduceAdd, Nat.reduceMul, Nat.reduceSub, Nat.reduceLeDiff, Nat.reduceLT, Int.reduceLT, Int.reduceLE, Int.reduceEq, Int.reduceToNat, Int.reduceAdd, Int.reduceSub, Int.reduceNeg, Int.reduceBEq, Int.reduceBNe, Nat.reduceBEq, Int.cast_ofNat_Int, decide_true, decide_false, ne_eq, eq_self_iff_true, beq_eq_false_iff_ne, bne_iff_ne, List.replicate, encEnt, List.length_map, *] <;> simp_all <;> done))
        | (with_reducible refine ite_in (fun _ => ?_) (fun _ => ?_))
        | (with_reducible refine ⟨fun _ => ?_, fun _ => ?_⟩)
        | (with_reducible refine And.intro ?_ ?_)
        | (with_reducible intro _)
        | (with_reducible exact is_in _)
        | (simp -implicitDefEqProofs only [SD, SF, SL, e_nf, reduceCtorEq, implies_true, ↓reduceIte, Nat.reduceEqDiff, Nat.reduceAdd, Nat.reduceMul, Nat.reduceSub, Nat.reduceLeDiff, Nat.reduceLT, Int.reduceLT, Int.reduceLE, Int.reduceEq, Int.reduceToNat, Int.reduceAdd, Int.reduceSub, Int.reduceNeg, Int.reduceBEq, Int.reduceBNe, Nat.reduceBEq, Int.cast_ofNat_Int, decide_true, decide_false, ne_eq, eq_self_iff_true, beq_eq_false_iff_ne, bne_iff_ne, List.replicate, encEnt, List.length_map, *]))))
      all_goals (first
        | rfl
        | (left; simp [encEnt]; done)
        | (left; simp [encEnt, hD1]; done)
        | omega
        | (simp only [maxLen, List.length_append, List.length_map, List.length_cons, List.length_nil] <;> omega)
        | (have := hll.out; simp only [maxLen, List.length_append, List.length_map, List.length_cons, List.length_nil] <;> omega)
        | (simp_all; done)
        | (simp_all; omega)
        | trace_state)

end Go.Proofs.YtcolebkklojccaaGreat.E

namespace Go.Proofs.YtcolebkklojccaaGreat.E
open Go
set_option maxHeartbeats 4000000
set_option maxRecDepth 100000
set_option linter.unusedSimpArgs false
set_option linter.unusedVariables false
attribute [local congr] c_wp c_ops c_op c_opS c_run c_runS c_dt c_seq c_blk c_loop c_S c_put c_bind c_mv c_pick c_nt c_ng c_bin c_binI c_binS c_beq c_B c_eqa c_hd c_cells c_blkK c_box c_vec c_mp c_nck c_mks c_appn c_mkm c_mput c_mlk c_mrm c_take c_ld c_ldF c_cellsK c_st c_fld c_fldv c_ix c_ixp c_ixv c_ixs c_sub c_subs c_len c_lens c_src c_dst c_ow c_app c_ext c_mm c_conv c_str c_isn c_fill c_rows c_boxo c_frz c_frzO c_frzA c_frzV c_spec c_specO c_opsP c_opP c_runP c_specP c_Z c_qretP c_fz c_fn c_gv c_cond c_res1 c_resL c_ret c_qret c_ite c_unr c_nx c_bk c_cut c_is
attribute [local irreducible] dwp
def ac26 : AC := (.seq (.ops [⟨(some 1), none, (.box (.t 0))⟩, ⟨(some 2), none, (.mv (.c .e0))⟩]) (.seq (.seq (.ops [⟨(some 5), none, (.fld 3 (.t 1))⟩, ⟨(some 6), none, (.ld false 1 (.t 5))⟩, ⟨(some 7), none, (.bin .eql (.t 6) (.c (.int .i64 1)))⟩]) (.cond (.t 7) (.seq (.ops [⟨(some 2), none, (.mv (.c .e0))⟩]) .ret) .skip)) (.seq (.ops [⟨(some 3), none, (.mv (.c .e0))⟩]) (.seq (.ops [⟨(some 8), none, (.mv (.t 3))⟩, ⟨(some 9), none, (.call false 42 [(.t 8), (.c (.int .i64 1)), (.c (.str [])), (.c (.int .i64 0))])⟩, ⟨(some 3), none, (.mv (.t 9))⟩]) (.seq (.ops [⟨(some 10), none, (.mv (.t 3))⟩, ⟨(some 11), none, (.call false 42 [(.t 10), (.c (.int .i64 3)), (.c (.str [])), (.c (.int .i64 0))])⟩, ⟨(some 3), none, (.mv (.t 11))⟩]) (.seq (.ops [⟨(some 12), none, (.mv (.t 3))⟩, ⟨(some 13), none, (.fld 2 (.t 1))⟩, ⟨(some 14), none, (.ld false 1 (.t 13))⟩, ⟨(some 15), none, (.call false 42 [(.t 12), (.c (.int .i64 2)), (.t 14), (.c (.int .i64 0))])⟩, ⟨(some 3), none, (.mv (.t 15))⟩]) (.seq (.seq (.ops [⟨(some 16), none, (.fld 3 (.t 1))⟩, ⟨(some 17), none, (.ld false 1 (.t 16))⟩, ⟨(some 18), none, (.bin .eql (.t 17) (.c (.int .i64 2)))⟩]) (.cond (.t 18) (.seq (.ops [⟨(some 19), none, (.mv (.t 3))⟩, ⟨(some 20), none, (.fld 5 (.t 1))⟩, ⟨(some 21), none, (.ld false 1 (.t 20))⟩, ⟨(some 22), none, (.call false 42 [(.t 19), (.c (.int .i64 2)), (.t 21), (.c (.int .i64 0))])⟩, ⟨(some 3), none, (.mv (.t 22))⟩]) (.seq (.ops [⟨(some 23), none, (.fld 10 (.t 1))⟩, ⟨(some 24), none, (.fld 1 (.t 23))⟩, ⟨(some 25), none, (.ld false 1 (.t 24))⟩, ⟨(some 4), none, (.mv (.t 25))⟩]) (.seq (.ops [⟨(some 26), none, (.mv (.t 4))⟩, ⟨(some 27), none, (.bin .eql (.t 26) (.c (.int .i64 3)))⟩, ⟨(some 28), none, (.mv (.t 27))⟩, ⟨(some 29), (some (28, false)), (.mv (.t 4))⟩, ⟨(some 30), (some (28, false)), (.bin .eql (.t 29) (.c (.int .i64 1)))⟩, ⟨(some 31), none, (.pick (.t 28) (.c (.bool true)) (.t 30))⟩, ⟨(some 32), none, (.mv (.t 31))⟩, ⟨(some 33), (some (32, false)), (.mv (.t 4))⟩, ⟨(some 34), (some (32, false)), (.bin .eql (.t 33) (.c (.int .i64 2)))⟩, ⟨(some 35), none, (.pick (.t 32) (.c (.bool true)) (.t 34))⟩]) (.cond (.t 35) (.ops [⟨(some 36), none, (.mv (.t 3))⟩, ⟨(some 37), none, (.call false 42 [(.t 36), (.c (.int .i64 4)), (.c (.str [])), (.c (.int .i64 0))])⟩, ⟨(some 3), none, (.mv (.t 37))⟩]) .skip)))) .skip)) (.seq (.ops [⟨(some 38), none, (.mv (.t 3))⟩, ⟨(some 2), none, (.mv (.t 38))⟩]) .ret))))))))
theorem tr26 : Tryz.f26.body.bind (trCode Tryz.prog) = some (strip ac26) := by kernel_rfl
theorem spec26 (e : Ev) : Spec Tryz.prog 26 [.fz (.agg (encEv e))] (.fz (.sl 3 ((keysE e).map encEnt))) := by
  refine spec_at (n := 38) (ars := [(.t 2)]) (ac := ac26) Tryz.func26 (by kernel_rfl) (by kernel_rfl) tr26 (by kernel_rfl) ?_
  unfold ac26
  obtain ⟨k1, hk1⟩ : ∃ k1, k1 = setS [] (⟨1, [], 0⟩ : Ent) := ⟨_, rfl⟩
  obtain ⟨k2, hk2⟩ : ∃ k2, k2 = setS k1 (⟨3, [], 0⟩ : Ent) := ⟨_, rfl⟩
  obtain ⟨k3, hk3⟩ : ∃ k3, k3 = setS k2 (⟨2, e.sender, 0⟩ : Ent) := ⟨_, rfl⟩
  obtain ⟨k4, hk4⟩ : ∃ k4, k4 = setS k3 (⟨2, e.key, 0⟩ : Ent) := ⟨_, rfl⟩
  obtain ⟨k5, hk5⟩ : ∃ k5, k5 = setS k4 (⟨4, [], 0⟩ : Ent) := ⟨_, rfl⟩
  have hke : keysE e = if e.kind = 1 then [] else if e.kind = 2 then (if e.n = 3 ∨ e.n = 1 ∨ e.n = 2 then k5 else k4) else k3 := by
    rw [hk5, hk4, hk3, hk2, hk1]
    rfl
  have z1 : allZ k1 := hk1 ▸ allZ_set allZ_nil rfl
  have z2 : allZ k2 := hk2 ▸ allZ_set z1 rfl
  have z3 : allZ k3 := hk3 ▸ allZ_set z2 rfl
  have z4 : allZ k4 := hk4 ▸ allZ_set z3 rfl
  have b1 : k1.length ≤ 1 := hk1 ▸ len_setS [] _
  have b2 : k2.length ≤ 2 := by have := len_setS k1 ⟨3, [], 0⟩; rw [← hk2] at this; omega
  have b3 : k3.length ≤ 3 := by have := len_setS k2 ⟨2, e.sender, 0⟩; rw [← hk3] at this; omega
  have b4 : k4.length ≤ 4 := by have := len_setS k3 ⟨2, e.key, 0⟩; rw [← hk4] at this; omega
  have q1 := spec42 [] 1 [] 0 (by decide)
  rw [← hk1] at q1
  have q2 := spec42 k1 3 [] 0 (by omega)
  rw [← hk2] at q2
  have q3 := spec42 k2 2 e.sender 0 (by omega)
  rw [← hk3] at q3
  have q4 := spec42 k3 2 e.key 0 (by omega)
  rw [← hk4] at q4
  have q5 := spec42 k4 4 [] 0 (by omega)
  rw [← hk5] at q5
  have hcs : (e.kind = 1 ∧ keysE e = []) ∨ (¬ e.kind = 1 ∧ e.kind = 2 ∧ (e.n = 3 ∨ e.n = 1 ∨ e.n = 2) ∧ keysE e = k5) ∨ (¬ e.kind = 1 ∧ e.kind = 2 ∧ ¬ e.n = 3 ∧ ¬ e.n = 1 ∧ ¬ e.n = 2 ∧ keysE e = k4) ∨ (¬ e.kind = 1 ∧ ¬ e.kind = 2 ∧ keysE e = k3) := by
    rw [hke]
    by_cases e1 : e.kind = 1
    · exact .inl ⟨e1, if_pos e1⟩
    · rw [if_neg e1]
      by_cases e2 : e.kind = 2
      · rw [if_pos e2]
        by_cases e3 : e.n = 3 ∨ e.n = 1 ∨ e.n = 2
        · exact .inr (.inl ⟨e1, e2, e3, if_pos e3⟩)
        · exact .inr (.inr (.inl ⟨e1, e2, fun h => e3 (.inl h), fun h => e3 (.inr (.inl h)), fun h => e3 (.inr (.inr h)), if_neg e3⟩))
      · exact .inr (.inr (.inr ⟨e1, e2, if_neg e2⟩))
  clear hke hk1 hk2 hk3 hk4 hk5
  rcases hcs with ⟨e1, hke⟩ | ⟨e1, e2, e3, hke⟩ | ⟨e1, e2, e3, e4, e5, hke⟩ | ⟨e1, e2, hke⟩
  all_goals (
    iterate 30 (all_goals (try (first
      | ((with_reducible refine of_kSpec ?_)
         refine call_sub (ds' := [.sl 3 (([] : List Ent).map encEnt), .int .i64 1, .str [], .int .i64 0]) (q1) rfl ?_ ?_
         · simp -implicitDefEqProofs only [SD, SF, SL, e_nf, reduceCtorEq, implies_true, ↓reduceIte, Nat.reduceEqDiff, Nat.reduceAdd, Nat.reduceMul, Nat.reduceSub, Nat.reduceLeDiff, Nat.reduceLT, Int.reduceLT, Int.reduceLE, Int.reduceEq, Int.reduceToNat, Int.reduceAdd, Int.reduceSub, Int.reduceNeg, Int.reduceBEq, Int.reduceBNe, Nat.reduceBEq, Int.cast_ofNat_Int, decide_true, decide_false, ne_eq, eq_self_iff_true, beq_eq_false_iff_ne, bne_iff_ne, List.replicate, encEnt, *]
           done)
      | ((with_reducible refine of_kSpec ?_); refine call_fz (q2) rfl ?_)
      | ((with_reducible refine of_kSpec ?_); refine call_fz (q3) rfl ?_)
      | ((with_reducible refine of_kSpec ?_); refine call_fz (q4) rfl ?_)
      | ((with_reducible refine of_kSpec ?_); refine call_fz (q5) rfl ?_)
      | (with_reducible refine ite_in (fun _ => ?_) (fun _ => ?_))
      | (with_reducible refine ⟨fun _ => ?_, fun _ => ?_⟩)
      | (with_reducible refine And.intro ?_ ?_)
      | (with_reducible intro _)
      | (with_reducible exact is_in _)
      | (simp -implicitDefEqProofs only [SD, SF, SL, e_nf, reduceCtorEq, implies_true, ↓reduceIte, Nat.reduceEqDiff, Nat.reduceAdd, Nat.reduceMul, Nat.reduceSub, Nat.reduceLeDiff, Nat.reduceLT, Int.reduceLT, Int.reduceLE, Int.reduceEq, Int.reduceToNat, Int.reduceAdd, Int.reduceSub, Int.reduceNeg, Int.reduceBEq, Int.reduceBNe, Nat.reduceBEq, Int.cast_ofNat_Int, decide_true, decide_false, ne_eq, eq_self_iff_true, beq_eq_false_iff_ne, bne_iff_ne, List.replicate, encEv, *]))))
    all_goals (first | rfl | (left; rw [hke]; done) | (rw [hke]; first | rfl | (left; rfl) | (simp; done)) | (simp_all; done) | (simp_all; omega) | trace_state))
def ac38 : AC := (.seq (.ops [⟨(some 1), none, (.box (.t 0))⟩, ⟨(some 2), none, (.mv (.c .e0))⟩]) (.seq (.seq (.ops [⟨(some 5), none, (.fld 3 (.t 1))⟩, ⟨(some 6), none, (.ld false 1 (.t 5))⟩, ⟨(some 7), none, (.bin .eql (.t 6) (.c (.int .i64 1)))⟩]) (.cond (.t 7) (.seq (.ops [⟨(some 2), none, (.mv (.c .e0))⟩]) .ret) .skip)) (.seq (.ops [⟨(some 8), none, (.call false 59 [(.c .e0), (.c (.int .i64 1)), (.c (.str []))])⟩, ⟨(some 3), none, (.mv (.t 8))⟩]) (.seq (.ops [⟨(some 9), none, (.mv (.t 3))⟩, ⟨(some 10), none, (.call false 59 [(.t 9), (.c (.int .i64 3)), (.c (.str []))])⟩, ⟨(some 3), none, (.mv (.t 10))⟩]) (.seq (.ops [⟨(some 11), none, (.mv (.t 3))⟩, ⟨(some 12), none, (.fld 2 (.t 1))⟩, ⟨(some 13), none, (.ld false 1 (.t 12))⟩, ⟨(some 14), none, (.call false 59 [(.t 11), (.c (.int .i64 2)), (.t 13)])⟩, ⟨(some 3), none, (.mv (.t 14))⟩]) (.seq (.seq (.ops [⟨(some 15), none, (.fld 3 (.t 1))⟩, ⟨(some 16), none, (.ld false 1 (.t 15))⟩, ⟨(some 17), none, (.bin .neq (.t 16) (.c (.int .i64 2)))⟩]) (.cond (.t 17) (.seq (.ops [⟨(some 18), none, (.mv (.t 3))⟩, ⟨(some 2), none, (.mv (.t 18))⟩]) .ret) .skip)) (.seq (.ops [⟨(some 19), none, (.mv (.t 3))⟩, ⟨(some 20), none, (.fld 5 (.t 1))⟩, ⟨(some 21), none, (.ld false 1 (.t 20))⟩, ⟨(some 22), none, (.call false 59 [(.t 19), (.c (.int .i64 2)), (.t 21)])⟩, ⟨(some 3), none, (.mv (.t 22))⟩]) (.seq (.seq (.ops [⟨(some 23), none, (.fld 10 (.t 1))⟩, ⟨(some 24), none, (.fld 1 (.t 23))⟩, ⟨(some 25), none, (.ld false 1 (.t 24))⟩, ⟨(some 4), none, (.mv (.t 25))⟩]) (.seq (.ops [⟨(some 26), none, (.mv (.t 4))⟩, ⟨(some 27), none, (.bin .eql (.t 26) (.c (.int .i64 3)))⟩, ⟨(some 28), none, (.mv (.t 27))⟩, ⟨(some 29), (some (28, false)), (.mv (.t 4))⟩, ⟨(some 30), (some (28, false)), (.bin .eql (.t 29) (.c (.int .i64 1)))⟩, ⟨(some 31), none, (.pick (.t 28) (.c (.bool true)) (.t 30))⟩, ⟨(some 32), none, (.mv (.t 31))⟩, ⟨(some 33), (some (32, false)), (.mv (.t 4))⟩, ⟨(some 34), (some (32, false)), (.bin .eql (.t 33) (.c (.int .i64 2)))⟩, ⟨(some 35), none, (.pick (.t 32) (.c (.bool true)) (.t 34))⟩]) (.cond (.t 35) (.ops [⟨(some 36), none, (.mv (.t 3))⟩, ⟨(some 37), none, (.call false 59 [(.t 36), (.c (.int .i64 4)), (.c (.str []))])⟩, ⟨(some 3), none, (.mv (.t 37))⟩]) .skip))) (.seq (.ops [⟨(some 38), none, (.mv (.t 3))⟩, ⟨(some 2), none, (.mv (.t 38))⟩]) .ret)))))))))
theorem tr38 : Tryz.f38.body.bind (trCode Tryz.prog) = some (strip ac38) := by kernel_rfl
theorem spec38 (e : Ev) : Spec Tryz.prog 38 [.fz (.agg (encEv e))] (.fz (.sl 3 ((keysE e).map encEnt))) := by
  refine spec_at (n := 38) (ars := [(.t 2)]) (ac := ac38) Tryz.func38 (by kernel_rfl) (by kernel_rfl) tr38 (by kernel_rfl) ?_
  unfold ac38
  obtain ⟨k1, hk1⟩ : ∃ k1, k1 = setS [] (⟨1, [], 0⟩ : Ent) := ⟨_, rfl⟩
  obtain ⟨k2, hk2⟩ : ∃ k2, k2 = setS k1 (⟨3, [], 0⟩ : Ent) := ⟨_, rfl⟩
  obtain ⟨k3, hk3⟩ : ∃ k3, k3 = setS k2 (⟨2, e.sender, 0⟩ : Ent) := ⟨_, rfl⟩
  obtain ⟨k4, hk4⟩ : ∃ k4, k4 = setS k3 (⟨2, e.key, 0⟩ : Ent) := ⟨_, rfl⟩
  obtain ⟨k5, hk5⟩ : ∃ k5, k5 = setS k4 (⟨4, [], 0⟩ : Ent) := ⟨_, rfl⟩
  have hke : keysE e = if e.kind = 1 then [] else if e.kind = 2 then (if e.n = 3 ∨ e.n = 1 ∨ e.n = 2 then k5 else k4) else k3 := by
    rw [hk5, hk4, hk3, hk2, hk1]
    rfl
  have z1 : allZ k1 := hk1 ▸ allZ_set allZ_nil rfl
  have z2 : allZ k2 := hk2 ▸ allZ_set z1 rfl
  have z3 : allZ k3 := hk3 ▸ allZ_set z2 rfl
  have z4 : allZ k4 := hk4 ▸ allZ_set z3 rfl
  have b1 : k1.length ≤ 1 := hk1 ▸ len_setS [] _
  have b2 : k2.length ≤ 2 := by have := len_setS k1 ⟨3, [], 0⟩; rw [← hk2] at this; omega
  have b3 : k3.length ≤ 3 := by have := len_setS k2 ⟨2, e.sender, 0⟩; rw [← hk3] at this; omega
  have b4 : k4.length ≤ 4 := by have := len_setS k3 ⟨2, e.key, 0⟩; rw [← hk4] at this; omega
  have q1 := spec59 [] 1 [] (by decide) allZ_nil
  rw [← hk1] at q1
  have q2 := spec59 k1 3 [] (by omega) z1
  rw [← hk2] at q2
  have q3 := spec59 k2 2 e.sender (by omega) z2
  rw [← hk3] at q3
  have q4 := spec59 k3 2 e.key (by omega) z3
  rw [← hk4] at q4
  have q5 := spec59 k4 4 [] (by omega) z4
  rw [← hk5] at q5
  have hcs : (e.kind = 1 ∧ keysE e = []) ∨ (¬ e.kind = 1 ∧ e.kind = 2 ∧ (e.n = 3 ∨ e.n = 1 ∨ e.n = 2) ∧ keysE e = k5) ∨ (¬ e.kind = 1 ∧ e.kind = 2 ∧ ¬ e.n = 3 ∧ ¬ e.n = 1 ∧ ¬ e.n = 2 ∧ keysE e = k4) ∨ (¬ e.kind = 1 ∧ ¬ e.kind = 2 ∧ keysE e = k3) := by
    rw [hke]
    by_cases e1 : e.kind = 1
    · exact .inl ⟨e1, if_pos e1⟩
    · rw [if_neg e1]
      by_cases e2 : e.kind = 2
      · rw [if_pos e2]
        by_cases e3 : e.n = 3 ∨ e.n = 1 ∨ e.n = 2
        · exact .inr (.inl ⟨e1, e2, e3, if_pos e3⟩)
        · exact .inr (.inr (.inl ⟨e1, e2, fun h => e3 (.inl h), fun h => e3 (.inr (.inl h)), fun h => e3 (.inr (.inr h)), if_neg e3⟩))
      · exact .inr (.inr (.inr ⟨e1, e2, if_neg e2⟩))
  clear hke hk1 hk2 hk3 hk4 hk5
  rcases hcs with ⟨e1, hke⟩ | ⟨e1, e2, e3, hke⟩ | ⟨e1, e2, e3, e4, e5, hke⟩ | ⟨e1, e2, hke⟩
  all_goals (
    iterate 30 (all_goals (try (first
      | ((with_reducible refine of_kSpec ?_)
         refine call_sub (ds' := [.sl 3 (([] : List Ent).map encEnt), .int .i64 1, .str []]) (q1) rfl ?_ ?_
         · simp -implicitDefEqProofs only [SD, SF, SL, e_nf, reduceCtorEq, implies_true, ↓reduceIte, Nat.reduceEqDiff, Nat.reduceAdd, Nat.reduceMul, Nat.reduceSub, Nat.reduceLeDiff, Nat.reduceLT, Int.reduceLT, Int.reduceLE, Int.reduceEq, Int.reduceToNat, Int.reduceAdd, Int.reduceSub, Int.reduceNeg, Int.reduceBEq, Int.reduceBNe, Nat.reduceBEq, Int.cast_ofNat_Int, decide_true, decide_false, ne_eq, eq_self_iff_true, beq_eq_false_iff_ne, bne_iff_ne, List.replicate, encEnt, *]
           done)
      | ((with_reducible refine of_kSpec ?_); refine call_fz (q2) rfl ?_)
      | ((with_reducible refine of_kSpec ?_); refine call_fz (q3) rfl ?_)
      | ((with_reducible refine of_kSpec ?_); refine call_fz (q4) rfl ?_)
      | ((with_reducible refine of_kSpec ?_); refine call_fz (q5) rfl ?_)
      | (with_reducible refine ite_in (fun _ => ?_) (fun _ => ?_))
      | (with_reducible refine ⟨fun _ => ?_, fun _ => ?_⟩)
      | (with_reducible refine And.intro ?_ ?_)
      | (with_reducible intro _)
      | (with_reducible exact is_in _)
      | (simp -implicitDefEqProofs only [SD, SF, SL, e_nf, reduceCtorEq, implies_true, ↓reduceIte, Nat.reduceEqDiff, Nat.reduceAdd, Nat.reduceMul, Nat.reduceSub, Nat.reduceLeDiff, Nat.reduceLT, Int.reduceLT, Int.reduceLE, Int.reduceEq, Int.reduceToNat, Int.reduceAdd, Int.reduceSub, Int.reduceNeg, Int.reduceBEq, Int.reduceBNe, Nat.reduceBEq, Int.cast_ofNat_Int, decide_true, decide_false, ne_eq, eq_self_iff_true, beq_eq_false_iff_ne, bne_iff_ne, List.replicate, encEv, *]))))
    all_goals (first | rfl | (left; rw [hke]; done) | (rw [hke]; first | rfl | (left; rfl) | (simp; done)) | (simp_all; done) | (simp_all; omega) | trace_state))

end Go.Proofs.YtcolebkklojccaaGreat.E
