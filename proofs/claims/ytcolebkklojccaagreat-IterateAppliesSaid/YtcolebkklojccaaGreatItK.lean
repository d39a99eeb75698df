/-
  ItK: walks of functions of the program at data level.
-/
import Derived.Test.YtcolebkklojccaaGreatProg
import Derived.Test.YtcolebkklojccaaGreatEngZ
import Derived.Test.YtcolebkklojccaaGreatItJ
import Derived.KernelRfl
set_option linter.unusedVariables false
set_option linter.unusedSimpArgs false
namespace Go.Proofs.YtcolebkklojccaaGreat.E
open Go
set_option maxHeartbeats 4000000
set_option maxRecDepth 100000
set_option linter.unusedSimpArgs false
set_option linter.unusedVariables false
attribute [local congr] c_wp c_ops c_op c_opS c_run c_runS c_dt c_seq c_blk c_loop c_S c_put c_bind c_mv c_pick c_nt c_ng c_bin c_binI c_binS c_beq c_B c_eqa c_hd c_cells c_blkK c_box c_vec c_mp c_nck c_mks c_appn c_mkm c_mput c_mlk c_mrm c_take c_ld c_ldF c_cellsK c_st c_fld c_fldv c_ix c_ixp c_ixv c_ixs c_sub c_subs c_len c_lens c_src c_dst c_ow c_app c_ext c_mm c_conv c_str c_isn c_fill c_rows c_boxo c_frz c_frzO c_frzA c_frzV c_spec c_specO c_opsP c_opP c_runP c_specP c_Z c_qretP c_fz c_fn c_gv c_cond c_res1 c_resL c_ret c_qret c_ite c_unr c_nx c_bk c_cut c_is
attribute [local irreducible] dwp
def ac21 : AC := (.seq (.ops [⟨(some 8), none, (.mv (.c .e0))⟩]) (.seq (.ops [⟨(some 9), none, (.mv (.c (.int .i64 0)))⟩]) (.seq (.block 0 (.loop (.seq (.seq (.draw (.q true ⟨(some 11), none, (.mv (.t 9))⟩ (.q false ⟨(some 12), none, (.mv (.t 0))⟩ (.op ⟨(some 13), none, (.len (.t 12))⟩ (.q false ⟨(some 14), none, (.bin .lss (.t 11) (.t 13))⟩ (.q false ⟨(some 15), none, (.mv (.t 14))⟩ (.q false ⟨(some 16), (some (15, true)), (.mv (.t 0))⟩ (.q false ⟨(some 17), (some (15, true)), (.mv (.t 9))⟩ (.q false ⟨(some 18), (some (15, true)), (.ix 3 (.t 16) (.t 17))⟩ (.q false ⟨(some 19), (some (15, true)), (.fld 0 (.t 18))⟩ (.q false ⟨(some 20), (some (15, true)), (.ld false 1 (.t 19))⟩ (.q false ⟨(some 21), (some (15, true)), (.mv (.t 0))⟩ (.q false ⟨(some 22), (some (15, true)), (.mv (.t 9))⟩ (.q false ⟨(some 23), (some (15, true)), (.ix 3 (.t 21) (.t 22))⟩ (.q false ⟨(some 24), (some (15, true)), (.fld 1 (.t 23))⟩ (.q false ⟨(some 25), (some (15, true)), (.ld false 1 (.t 24))⟩ (.q false ⟨(some 26), (some (15, true)), (.mv (.t 1))⟩ (.q false ⟨(some 27), (some (15, true)), (.mv (.t 2))⟩ (.op ⟨(some 28), (some (15, true)), (.call false 23 [(.t 20), (.t 25), (.t 26), (.t 27)])⟩ (.q false ⟨(some 29), none, (.pick (.t 15) (.t 28) (.c (.bool false)))⟩ .nil)))))))))))))))))))) (.cond (.t 29) .skip (.exit 0))) (.block 1 (.ops [⟨(some 30), none, (.mv (.t 9))⟩, ⟨(some 31), none, (.bin .add (.t 30) (.c (.int .i64 1)))⟩, ⟨(some 9), none, (.mv (.t 31))⟩]))))) (.seq (.ops [⟨(some 32), none, (.buildSl 49 3 0 [(.int .i64 0), (.str []), (.int .i64 0)] [])⟩, ⟨(some 33), none, (.mv (.t 0))⟩, ⟨(some 34), none, (.mv (.t 9))⟩, ⟨(some 35), none, (.sub 3 (.t 33) none (some (.t 34)) none)⟩, ⟨(some 36), none, (.app 49 3 32 (.t 32) (.t 35))⟩, ⟨(some 10), none, (.mv (.t 36))⟩]) (.seq (.ops [⟨(some 37), none, (.mv (.t 10))⟩, ⟨(some 38), none, (.mv (.t 1))⟩, ⟨(some 39), none, (.mv (.t 2))⟩, ⟨(some 40), none, (.mv (.t 3))⟩, ⟨(some 41), none, (.build [(.int .i64 0), (.str []), (.int .i64 0)] [(0, (1, (.t 38))), (1, (1, (.t 39))), (2, (1, (.t 40)))])⟩, ⟨(some 42), none, (.buildSl 49 3 1 [(.int .i64 0), (.str []), (.int .i64 0)] [(0, (.t 41))])⟩, ⟨(some 43), none, (.app 49 3 32 (.t 37) (.t 42))⟩, ⟨(some 10), none, (.mv (.t 43))⟩]) (.seq (.seq (.ops [⟨(some 44), none, (.mv (.t 9))⟩, ⟨(some 45), none, (.mv (.t 0))⟩, ⟨(some 46), none, (.len (.t 45))⟩, ⟨(some 47), none, (.bin .lss (.t 44) (.t 46))⟩, ⟨(some 48), none, (.mv (.t 47))⟩, ⟨(some 49), (some (48, true)), (.mv (.t 0))⟩, ⟨(some 50), (some (48, true)), (.mv (.t 9))⟩, ⟨(some 51), (some (48, true)), (.ix 3 (.t 49) (.t 50))⟩, ⟨(some 52), (some (48, true)), (.fld 0 (.t 51))⟩, ⟨(some 53), (some (48, true)), (.ld false 1 (.t 52))⟩, ⟨(some 54), (some (48, true)), (.mv (.t 1))⟩, ⟨(some 55), (some (48, true)), (.bin .eql (.t 53) (.t 54))⟩, ⟨(some 56), none, (.pick (.t 48) (.t 55) (.c (.bool false)))⟩, ⟨(some 57), none, (.mv (.t 56))⟩, ⟨(some 58), (some (57, true)), (.mv (.t 0))⟩, ⟨(some 59), (some (57, true)), (.mv (.t 9))⟩, ⟨(some 60), (some (57, true)), (.ix 3 (.t 58) (.t 59))⟩, ⟨(some 61), (some (57, true)), (.fld 1 (.t 60))⟩, ⟨(some 62), (some (57, true)), (.ld false 1 (.t 61))⟩, ⟨(some 63), (some (57, true)), (.mv (.t 2))⟩, ⟨(some 64), (some (57, true)), (.bin .eql (.t 62) (.t 63))⟩, ⟨(some 65), none, (.pick (.t 57) (.t 64) (.c (.bool false)))⟩]) (.cond (.t 65) (.ops [⟨(some 66), none, (.mv (.t 9))⟩, ⟨(some 67), none, (.bin .add (.t 66) (.c (.int .i64 1)))⟩, ⟨(some 9), none, (.mv (.t 67))⟩]) .skip)) (.seq (.ops [⟨(some 68), none, (.mv (.t 10))⟩, ⟨(some 69), none, (.mv (.t 0))⟩, ⟨(some 70), none, (.mv (.t 9))⟩, ⟨(some 71), none, (.sub 3 (.t 69) (some (.t 70)) none none)⟩, ⟨(some 72), none, (.app 49 3 32 (.t 68) (.t 71))⟩, ⟨(some 8), none, (.mv (.t 72))⟩]) .ret)))))))
theorem tr21 : Tryz.f21.body.bind (trCode Tryz.prog) = some (strip ac21) := by kernel_rfl
theorem spec21 (l : List Ent) (k : Int) (u : List UInt8) (i : Int) (hb : l.length ≤ 1000) : Spec Tryz.prog 21 [.fz (.sl 3 (l.map encEnt)), .fz (.int .i64 k), .fz (.str u), .fz (.int .i64 i)] (.fz (.sl 3 ((setS l ⟨k, u, i⟩).map encEnt))) := by
  refine spec_at (n := 69) (ars := [(.t 8)]) (ac := ac21) Tryz.func21 (by kernel_rfl) (by kernel_rfl) tr21 (by kernel_rfl) ?_
  unfold ac21
  iterate 6 (all_goals (try (first
    | (with_reducible refine ite_in (fun _ => ?_) (fun _ => ?_))
    | (with_reducible refine ⟨fun _ => ?_, fun _ => ?_⟩)
    | (with_reducible refine And.intro ?_ ?_)
    | (with_reducible intro _)
    | (with_reducible exact is_in _)
    | (simp -implicitDefEqProofs only [SD, SF, SL, e_nf, reduceCtorEq, implies_true, ↓reduceIte, Nat.reduceEqDiff, Nat.reduceAdd, Nat.reduceMul, Nat.reduceSub, Nat.reduceLeDiff, Nat.reduceLT, Int.reduceLT, Int.reduceLE, Int.reduceEq, Int.reduceToNat, Int.reduceAdd, Int.reduceSub, Int.reduceNeg, Int.reduceBEq, Int.reduceBNe, Nat.reduceBEq, Int.cast_ofNat_Int, decide_true, decide_false, ne_eq, eq_self_iff_true, beq_eq_false_iff_ne, bne_iff_ne, List.replicate, encEnt, *]))))
  refine loop_q (X := List Ent × List Ent × Unit) (fun n x => l = x.1 ++ x.2.1 ∧ n = x.2.1.length ∧ (x.1.all (bq ⟨k, u, i⟩) = true)) (fun x => [(9, .int .i64 x.1.length)]) (fun _ => []) [11, 12, 13, 14, 15, 16, 17, 18, 19, 20, 21, 22, 23, 24, 25, 26, 27, 28, 29, 30, 31] []  (l).length ([], l, ()) ⟨rfl, rfl, by rfl⟩ ?_ ?_
  · simp -implicitDefEqProofs only [SD, SF, SL, e_nf, reduceCtorEq, implies_true, ↓reduceIte, Nat.reduceEqDiff, Nat.reduceAdd, Nat.reduceMul, Nat.reduceSub, Nat.reduceLeDiff, Nat.reduceLT, Int.reduceLT, Int.reduceLE, Int.reduceEq, Int.reduceToNat, Int.reduceAdd, Int.reduceSub, Int.reduceNeg, Int.reduceBEq, Int.reduceBNe, Nat.reduceBEq, Int.cast_ofNat_Int, decide_true, decide_false, ne_eq, eq_self_iff_true, beq_eq_false_iff_ne, bne_iff_ne, List.replicate, encEnt, List.length_map] <;> simp
  · rintro n ⟨pre, rest, a⟩ ⟨he, rfl, hI⟩
    dsimp only at he hI
    cases rest with
    | nil =>
      obtain rfl : l = pre := by simpa using he
      clear he
      have hlt : ¬ (((l).length : Int) < ((l).length : Int)) := Int.lt_irrefl _
      have hst : setS l ⟨k, u, i⟩ = l ++ [⟨k, u, i⟩] := set_end hI
      have htk : (l.map encEnt).take l.length = l.map encEnt := List.take_of_length_le (by simp)
      have hdr : (l.map encEnt).drop l.length = [] := List.drop_eq_nil_of_le (by simp)
      have g1 : l.length ≤ maxLen := by simp only [maxLen]; omega
      have g2 : l.length * 32 ≤ 140737488355328 := by omega
      have g3 : l.length + 1 ≤ maxLen := by simp only [maxLen]; omega
      have g4 : (l.length + 1) * 32 ≤ 140737488355328 := by omega
      clear hI
      iterate 60 (all_goals (try (first
        | (with_reducible refine ite_in (fun _ => ?_) (fun _ => ?_))
        | (with_reducible refine ⟨fun _ => ?_, fun _ => ?_⟩)
        | (with_reducible refine And.intro ?_ ?_)
        | (with_reducible intro _)
        | (with_reducible exact is_in _)
        | (simp -implicitDefEqProofs only [SD, SF, SL, e_nf, reduceCtorEq, implies_true, ↓reduceIte, Nat.reduceEqDiff, Nat.reduceAdd, Nat.reduceMul, Nat.reduceSub, Nat.reduceLeDiff, Nat.reduceLT, Int.reduceLT, Int.reduceLE, Int.reduceEq, Int.reduceToNat, Int.reduceAdd, Int.reduceSub, Int.reduceNeg, Int.reduceBEq, Int.reduceBNe, Nat.reduceBEq, Int.cast_ofNat_Int, decide_true, decide_false, ne_eq, eq_self_iff_true, beq_eq_false_iff_ne, bne_iff_ne, List.replicate, encEnt, List.length_map, *]))))
      all_goals (first
        | rfl
        | (left; simp [encEnt]; done)
        | (left; simp [encEnt, hD1]; done)
        | (left; simp [encEnt, hC1, hC2]; done)
        | omega
        | (simp only [maxLen, List.length_append, List.length_map, List.length_cons, List.length_nil] <;> omega)
        | (have := hll.out; simp only [maxLen, List.length_append, List.length_map, List.length_cons, List.length_nil] <;> omega)
        | (simp_all; done)
        | (simp_all; omega)
        | trace_state)

    | cons x rest =>
      have hlt := cut_lt he
      have hx := cutD encEnt he
      simp only [encEnt] at hx
      simp -implicitDefEqProofs only [SD, SF, SL, e_nf, reduceCtorEq, implies_true, ↓reduceIte, Nat.reduceEqDiff, Nat.reduceAdd, Nat.reduceMul, Nat.reduceSub, Nat.reduceLeDiff, Nat.reduceLT, Int.reduceLT, Int.reduceLE, Int.reduceEq, Int.reduceToNat, Int.reduceAdd, Int.reduceSub, Int.reduceNeg, Int.reduceBEq, Int.reduceBNe, Nat.reduceBEq, Int.cast_ofNat_Int, decide_true, decide_false, ne_eq, eq_self_iff_true, beq_eq_false_iff_ne, bne_iff_ne, List.replicate, encEnt, List.length_map, hlt]
      intro hl
      have hw := wrap_len (n := pre.length) (m := (l).length) (cut_lt' he) (by simp only [maxLen]; omega)
      replace he := Hd.mk he
      rcases ent_tri x k u with hA | ⟨hB1, hB2⟩ | ⟨hC1, hC2⟩ | ⟨hD1, hD2, hD3, hD4⟩ | ⟨hE1, hE2, hE3⟩
      case' inl =>
        have hbt : bq ⟨k, u, i⟩ x = true := by simp [bq, precB, hA]
        have hpb : precB ⟨x.kind, x.key, 0⟩ ⟨k, u, 0⟩ = true := by simp [precB, hA]
      case' inr.inl =>
        have hbt : bq ⟨k, u, i⟩ x = true := by simp [bq, precB, hB1, hB2]
        have hpb : precB ⟨x.kind, x.key, 0⟩ ⟨k, u, 0⟩ = true := by simp [precB, hB1, hB2]
      case' inr.inr.inl =>
        have hpb : precB ⟨x.kind, x.key, 0⟩ ⟨k, u, 0⟩ = false := by simp [precB, hC1, hC2, blt_irr]
        have hst : setS l ⟨k, u, i⟩ = pre ++ ⟨k, u, i⟩ :: rest := by rw [set_mid he.out hI (by simp [bq, precB, hC1, hC2, blt_irr]), if_pos (by simp [precB, hC1, hC2, blt_irr])]
        have hbt : True := trivial
      case' inr.inr.inr.inl =>
        have hpb : precB ⟨x.kind, x.key, 0⟩ ⟨k, u, 0⟩ = false := by simp [precB, hD1, hD2]
        have hst : setS l ⟨k, u, i⟩ = pre ++ ⟨k, u, i⟩ :: x :: rest := by rw [set_mid he.out hI (by simp [bq, precB, hD1, hD2]), if_neg (by simp [precB, hD1, hD4])]
        have hbt : True := trivial
      case' inr.inr.inr.inr =>
        have hpb : precB ⟨x.kind, x.key, 0⟩ ⟨k, u, 0⟩ = false := by simp [precB, hE1, hE2]
        have hst : setS l ⟨k, u, i⟩ = pre ++ ⟨k, u, i⟩ :: x :: rest := by rw [set_mid he.out hI (by simp [bq, precB, hE1, hE2]), if_neg (by simp [precB, hE3])]
        have hbt : True := trivial
      all_goals (have hll : l.length = pre.length + (rest.length + 1) := by rw [he.out]; simp)
      all_goals (have htk : (l.map encEnt).take pre.length = pre.map encEnt := by rw [he.out]; simp)
      all_goals (have hdr : (l.map encEnt).drop pre.length = encEnt x :: rest.map encEnt := by rw [he.out]; simp)
      all_goals (have hdr1 : (l.map encEnt).drop (pre.length + 1) = rest.map encEnt := by rw [he.out, List.map_append, List.map_cons, ← List.drop_drop, List.drop_left' (by simp)]; rfl)
      all_goals (have htl : (l.map encEnt).take l.length = l.map encEnt := List.take_of_length_le (by simp))
      all_goals (have hle1 : pre.length ≤ l.length := by omega)
      all_goals (have hle2 : pre.length + 1 ≤ l.length := by omega)
      all_goals (have g1 : pre.length ≤ maxLen := by simp only [maxLen]; omega)
      all_goals (have g2 : pre.length * 32 ≤ 140737488355328 := by omega)
      all_goals (have g3 : pre.length + 1 ≤ maxLen := by simp only [maxLen]; omega)
      all_goals (have g4 : (pre.length + 1) * 32 ≤ 140737488355328 := by omega)
      all_goals (replace hll := Hd.mk hll)
      all_goals (simp only [encEnt] at hdr)
      all_goals (replace hI := Hd.mk hI)
      all_goals (replace hbt := Hd.mk hbt)
      iterate 60 (all_goals (try (first
        | ((with_reducible refine back_in rest.length [11, 12, 13, 14, 15, 16, 17, 18, 19, 20, 21, 22, 23, 24, 25, 26, 27, 28, 29, 30, 31] [] (pre ++ [x], rest, a) ?_ ⟨?_, ?_, ?_⟩ ?_)
           · simp
           · exact cut_snoc he.out
           · rfl
           · first | rfl | (simp only [List.all_append, List.all_cons, List.all_nil, Bool.and_true, Bool.and_eq_true]; exact ⟨hI.out, hbt.out⟩)
           · first | (simp -implicitDefEqProofs only [SD, SF, SL, e_nf, reduceCtorEq, implies_true, ↓reduceIte, Nat.reduceEqDiff, Nat.reduceAdd, Nat.reduceMul, Nat.reduceSub, Nat.reduceLeDiff, Nat.reduceLT, Int.reduceLT, Int.reduceLE, Int.reduceEq, Int.reduceToNat, Int.reduceAdd, Int.reduceSub, Int.reduceNeg, Int.reduceBEq, Int.reduceBNe, Nat.reduceBEq, Int.cast_ofNat_Int, decide_true, decide_false, ne_eq, eq_self_iff_true, beq_eq_false_iff_ne, bne_iff_ne, List.replicate, encEnt, List.length_map] <;> simp <;> done) | (simp -implicitDefEqProofs only [SD, SF, SL, e_nf, reduceCtorEq, implies_true, ↓reduceIte, Nat.reduceEqDiff, Nat.reduceAdd, Nat.reduceMul, Nat.reduceSub, Nat.reduceLeDiff, Nat.reduceLT, Int.reduceLT, Int.reduceLE, Int.reduceEq, Int.reduceToNat, Int.reduceAdd, Int.reduceSub, Int.reduceNeg, Int.reduceBEq, Int.reduceBNe, Nat.reduceBEq, Int.cast_ofNat_Int, decide_true, decide_false, ne_eq, eq_self_iff_true, beq_eq_false_iff_ne, bne_iff_ne, List.replicate, encEnt, List.length_map, *] <;> simp_all <;> done))
        | ((with_reducible refine of_kSpec ?_)
           refine call_sub (ds' := [.int .i64 x.kind, .str x.key, .int .i64 k, .str u]) (spec23 x.kind x.key k u) rfl ?_ ?_
           · simp -implicitDefEqProofs only [SD, SF, SL, e_nf, reduceCtorEq, implies_true, ↓reduceIte, Nat.reduceEqDiff, Nat.reduceAdd, Nat.reduceMul, Nat.reduceSub, Nat.reduceLeDiff, Nat.reduceLT, Int.reduceLT, Int.reduceLE, Int.reduceEq, Int.reduceToNat, Int.reduceAdd, Int.reduceSub, Int.reduceNeg, Int.reduceBEq, Int.reduceBNe, Nat.reduceBEq, Int.cast_ofNat_Int, decide_true, decide_false, ne_eq, eq_self_iff_true, beq_eq_false_iff_ne, bne_iff_ne, List.replicate, *]
             done)
        | (with_reducible refine ite_in (fun _ => ?_) (fun _ => ?_))
        | (with_reducible refine ⟨fun _ => ?_, fun _ => ?_⟩)
        | (with_reducible refine And.intro ?_ ?_)
        | (with_reducible intro _)
        | (with_reducible exact is_in _)
        | (simp -implicitDefEqProofs only [SD, SF, SL, e_nf, reduceCtorEq, implies_true, ↓reduceIte, Nat.reduceEqDiff, Nat.reduceAdd, Nat.reduceMul, Nat.reduceSub, Nat.reduceLeDiff, Nat.reduceLT, Int.reduceLT, Int.reduceLE, Int.reduceEq, Int.reduceToNat, Int.reduceAdd, Int.reduceSub, Int.reduceNeg, Int.reduceBEq, Int.reduceBNe, Nat.reduceBEq, Int.cast_ofNat_Int, decide_true, decide_false, ne_eq, eq_self_iff_true, beq_eq_false_iff_ne, bne_iff_ne, List.replicate, encEnt, List.length_map, *]))))
      all_goals (first
        | rfl
        | (left; simp [encEnt]; done)
        | (left; simp [encEnt, hD1]; done)
        | (left; simp [encEnt, hC1, hC2]; done)
        | omega
        | (simp only [maxLen, List.length_append, List.length_map, List.length_cons, List.length_nil] <;> omega)
        | (have := hll.out; simp only [maxLen, List.length_append, List.length_map, List.length_cons, List.length_nil] <;> omega)
        | (simp_all; done)
        | (simp_all; omega)
        | trace_state)

end Go.Proofs.YtcolebkklojccaaGreat.E

namespace Go.Proofs.YtcolebkklojccaaGreat.E
open Go
set_option maxHeartbeats 4000000
set_option maxRecDepth 100000
set_option linter.unusedSimpArgs false
set_option linter.unusedVariables false
attribute [local congr] c_wp c_ops c_op c_opS c_run c_runS c_dt c_seq c_blk c_loop c_S c_put c_bind c_mv c_pick c_nt c_ng c_bin c_binI c_binS c_beq c_B c_eqa c_hd c_cells c_blkK c_box c_vec c_mp c_nck c_mks c_appn c_mkm c_mput c_mlk c_mrm c_take c_ld c_ldF c_cellsK c_st c_fld c_fldv c_ix c_ixp c_ixv c_ixs c_sub c_subs c_len c_lens c_src c_dst c_ow c_app c_ext c_mm c_conv c_str c_isn c_fill c_rows c_boxo c_frz c_frzO c_frzA c_frzV c_spec c_specO c_opsP c_opP c_runP c_specP c_Z c_qretP c_fz c_fn c_gv c_cond c_res1 c_resL c_ret c_qret c_ite c_unr c_nx c_bk c_cut c_is
attribute [local irreducible] dwp

theorem Ent_eq (a b : Ent) : (a = b) = (a.kind = b.kind ∧ a.key = b.key ∧ a.ident = b.ident) := by cases a; cases b; simp
def ac6 : AC := (.seq (.ops [⟨(some 4), none, (.mv (.c (.bool false)))⟩]) (.seq (.seq (.ops [⟨(some 6), none, (.mv (.t 0))⟩, ⟨(some 7), none, (.len (.t 6))⟩, ⟨(some 8), none, (.mv (.t 1))⟩, ⟨(some 9), none, (.len (.t 8))⟩, ⟨(some 10), none, (.bin .neq (.t 7) (.t 9))⟩]) (.cond (.t 10) (.seq (.ops [⟨(some 4), none, (.mv (.c (.bool false)))⟩]) .ret) .skip)) (.seq (.seq (.ops [⟨(some 5), none, (.mv (.c (.int .i64 0)))⟩]) (.block 0 (.loop (.seq (.seq (.ops [⟨(some 11), none, (.mv (.t 5))⟩, ⟨(some 12), none, (.mv (.t 0))⟩, ⟨(some 13), none, (.len (.t 12))⟩, ⟨(some 14), none, (.bin .lss (.t 11) (.t 13))⟩]) (.cond (.t 14) .skip (.exit 0))) (.seq (.block 1 (.seq (.draw (.q false ⟨(some 17), none, (.mv (.t 0))⟩ (.q false ⟨(some 18), none, (.mv (.t 5))⟩ (.q false ⟨(some 19), none, (.ix 3 (.t 17) (.t 18))⟩ (.q false ⟨(some 20), none, (.fld 0 (.t 19))⟩ (.q false ⟨(some 21), none, (.ld false 1 (.t 20))⟩ (.q false ⟨(some 22), none, (.mv (.t 1))⟩ (.q false ⟨(some 23), none, (.mv (.t 5))⟩ (.q false ⟨(some 24), none, (.ix 3 (.t 22) (.t 23))⟩ (.q false ⟨(some 25), none, (.fld 0 (.t 24))⟩ (.q false ⟨(some 26), none, (.ld false 1 (.t 25))⟩ (.q false ⟨(some 27), none, (.bin .neq (.t 21) (.t 26))⟩ (.q false ⟨(some 28), none, (.mv (.t 27))⟩ (.q false ⟨(some 29), (some (28, false)), (.mv (.t 0))⟩ (.q false ⟨(some 30), (some (28, false)), (.mv (.t 5))⟩ (.q false ⟨(some 31), (some (28, false)), (.ix 3 (.t 29) (.t 30))⟩ (.q false ⟨(some 32), (some (28, false)), (.fld 1 (.t 31))⟩ (.q false ⟨(some 33), (some (28, false)), (.ld false 1 (.t 32))⟩ (.q false ⟨(some 34), (some (28, false)), (.mv (.t 1))⟩ (.q false ⟨(some 35), (some (28, false)), (.mv (.t 5))⟩ (.q false ⟨(some 36), (some (28, false)), (.ix 3 (.t 34) (.t 35))⟩ (.q false ⟨(some 37), (some (28, false)), (.fld 1 (.t 36))⟩ (.q false ⟨(some 38), (some (28, false)), (.ld false 1 (.t 37))⟩ (.q false ⟨(some 39), (some (28, false)), (.bin .neq (.t 33) (.t 38))⟩ (.q false ⟨(some 40), none, (.pick (.t 28) (.c (.bool true)) (.t 39))⟩ (.q false ⟨(some 41), none, (.mv (.t 40))⟩ (.q false ⟨(some 42), (some (41, false)), (.mv (.t 0))⟩ (.q false ⟨(some 43), (some (41, false)), (.mv (.t 5))⟩ (.q false ⟨(some 44), (some (41, false)), (.ix 3 (.t 42) (.t 43))⟩ (.q false ⟨(some 45), (some (41, false)), (.fld 2 (.t 44))⟩ (.q false ⟨(some 46), (some (41, false)), (.ld false 1 (.t 45))⟩ (.q false ⟨(some 47), (some (41, false)), (.mv (.t 1))⟩ (.q false ⟨(some 48), (some (41, false)), (.mv (.t 5))⟩ (.q false ⟨(some 49), (some (41, false)), (.ix 3 (.t 47) (.t 48))⟩ (.q false ⟨(some 50), (some (41, false)), (.fld 2 (.t 49))⟩ (.q false ⟨(some 51), (some (41, false)), (.ld false 1 (.t 50))⟩ (.q false ⟨(some 52), (some (41, false)), (.bin .neq (.t 46) (.t 51))⟩ (.q false ⟨(some 53), none, (.pick (.t 41) (.c (.bool true)) (.t 52))⟩ .nil)))))))))))))))))))))))))))))))))))))) (.cond (.t 53) (.seq (.ops [⟨(some 4), none, (.mv (.c (.bool false)))⟩]) .ret) .skip))) (.ops [⟨(some 15), none, (.mv (.t 5))⟩, ⟨(some 16), none, (.bin .add (.t 15) (.c (.int .i64 1)))⟩, ⟨(some 5), none, (.mv (.t 16))⟩])))))) (.seq (.ops [⟨(some 4), none, (.mv (.c (.bool true)))⟩]) .ret))))
theorem tr6 : Tryz.f6.body.bind (trCode Tryz.prog) = some (strip ac6) := by kernel_rfl
theorem spec6 (a b : List Ent) : Spec Tryz.prog 6 [.fz (.sl 3 (a.map encEnt)), .fz (.sl 3 (b.map encEnt))] (.fz (.bool (decide (a = b)))) := by
  refine spec_at (n := 52) (ars := [(.t 4)]) (ac := ac6) Tryz.func6 (by kernel_rfl) (by kernel_rfl) tr6 (by kernel_rfl) ?_
  unfold ac6
  simp -implicitDefEqProofs only [SD, SF, SL, e_nf, reduceCtorEq, implies_true, ↓reduceIte, Nat.reduceEqDiff, Nat.reduceAdd, Nat.reduceMul, Nat.reduceSub, Nat.reduceLeDiff, Nat.reduceLT, Int.reduceLT, Int.reduceLE, Int.reduceEq, Int.reduceToNat, Int.reduceAdd, Int.reduceSub, Int.reduceNeg, Int.reduceBEq, Int.reduceBNe, Nat.reduceBEq, Int.cast_ofNat_Int, decide_true, decide_false, ne_eq, eq_self_iff_true, beq_eq_false_iff_ne, bne_iff_ne, List.replicate, len_cast]
  intro _ _
  by_cases h : a.length = b.length
  · obtain ⟨z, rfl, rfl⟩ := zip_of_len h
    rw [eqz_dec]
    simp -implicitDefEqProofs only [SD, SF, SL, e_nf, reduceCtorEq, implies_true, ↓reduceIte, Nat.reduceEqDiff, Nat.reduceAdd, Nat.reduceMul, Nat.reduceSub, Nat.reduceLeDiff, Nat.reduceLT, Int.reduceLT, Int.reduceLE, Int.reduceEq, Int.reduceToNat, Int.reduceAdd, Int.reduceSub, Int.reduceNeg, Int.reduceBEq, Int.reduceBNe, Nat.reduceBEq, Int.cast_ofNat_Int, decide_true, decide_false, ne_eq, eq_self_iff_true, beq_eq_false_iff_ne, bne_iff_ne, List.replicate, len_cast, h]
    refine loop_q (X := List (Ent × Ent) × List (Ent × Ent) × Unit) (fun n x => z = x.1 ++ x.2.1 ∧ n = x.2.1.length ∧ (eqz x.1)) (fun x => [(5, .int .i64 x.1.length)]) (fun _ => []) [4, 11, 12, 13, 14, 15, 16, 17, 18, 19, 20, 21, 22, 23, 24, 25, 26, 27, 28, 29, 30, 31, 32, 33, 34, 35, 36, 37, 38, 39, 40, 41, 42, 43, 44, 45, 46, 47, 48, 49, 50, 51, 52, 53] []  (z).length ([], z, ()) ⟨rfl, rfl, by first | rfl | assumption | (simp_all [eqz_end, eqz_mid, eqz_nil, Ent_eq]; done) | grind [eqz_end, eqz_mid, eqz_nil, Ent_eq]⟩ ?_ ?_
    · simp -implicitDefEqProofs only [SD, SF, SL, e_nf, reduceCtorEq, implies_true, ↓reduceIte, Nat.reduceEqDiff, Nat.reduceAdd, Nat.reduceMul, Nat.reduceSub, Nat.reduceLeDiff, Nat.reduceLT, Int.reduceLT, Int.reduceLE, Int.reduceEq, Int.reduceToNat, Int.reduceAdd, Int.reduceSub, Int.reduceNeg, Int.reduceBEq, Int.reduceBNe, Nat.reduceBEq, Int.cast_ofNat_Int, decide_true, decide_false, ne_eq, eq_self_iff_true, beq_eq_false_iff_ne, bne_iff_ne, List.replicate, eqz_end, eqz_mid, eqz_nil] <;> simp
    · rintro n ⟨pre, rest, a⟩ ⟨he, rfl, hI⟩
      dsimp only at he hI
      cases rest with
      | nil =>
        obtain rfl : z = pre := by simpa using he
        clear he
        have hlt : ¬ (((z).length : Int) < ((z).length : Int)) := Int.lt_irrefl _
        iterate 30 (all_goals (try (first
          | (with_reducible refine ite_in (fun _ => ?_) (fun _ => ?_))
          | (with_reducible refine ⟨fun _ => ?_, fun _ => ?_⟩)
          | (with_reducible refine And.intro ?_ ?_)
          | (with_reducible intro _)
          | (with_reducible exact is_in _)
          | (simp -implicitDefEqProofs only [SD, SF, SL, e_nf, reduceCtorEq, implies_true, ↓reduceIte, Nat.reduceEqDiff, Nat.reduceAdd, Nat.reduceMul, Nat.reduceSub, Nat.reduceLeDiff, Nat.reduceLT, Int.reduceLT, Int.reduceLE, Int.reduceEq, Int.reduceToNat, Int.reduceAdd, Int.reduceSub, Int.reduceNeg, Int.reduceBEq, Int.reduceBNe, Nat.reduceBEq, Int.cast_ofNat_Int, decide_true, decide_false, ne_eq, eq_self_iff_true, beq_eq_false_iff_ne, bne_iff_ne, List.replicate, eqz_end, eqz_mid, eqz_nil, *]))))
        all_goals (first | (simp_all [eqz_end, eqz_mid, eqz_nil, Ent_eq]; done) | trace_state)

      | cons x rest =>
        have hlt := cut_lt he
        have hx := cutD1 encEnt he
        have hy := cutD2 encEnt he
        have hez := eqz_mid pre x rest
        rw [← he] at hez
        simp only [encEnt] at hx hy
        simp -implicitDefEqProofs only [SD, SF, SL, e_nf, reduceCtorEq, implies_true, ↓reduceIte, Nat.reduceEqDiff, Nat.reduceAdd, Nat.reduceMul, Nat.reduceSub, Nat.reduceLeDiff, Nat.reduceLT, Int.reduceLT, Int.reduceLE, Int.reduceEq, Int.reduceToNat, Int.reduceAdd, Int.reduceSub, Int.reduceNeg, Int.reduceBEq, Int.reduceBNe, Nat.reduceBEq, Int.cast_ofNat_Int, decide_true, decide_false, ne_eq, eq_self_iff_true, beq_eq_false_iff_ne, bne_iff_ne, List.replicate, eqz_end, eqz_mid, eqz_nil, hlt]
        intro hl
        have hw := wrap_len (n := pre.length) (m := (z).length) (cut_lt' he) (by simpa using hl)
        replace he := Hd.mk he
        iterate 30 (all_goals (try (first
          | ((with_reducible refine back_in rest.length [4, 11, 12, 13, 14, 15, 16, 17, 18, 19, 20, 21, 22, 23, 24, 25, 26, 27, 28, 29, 30, 31, 32, 33, 34, 35, 36, 37, 38, 39, 40, 41, 42, 43, 44, 45, 46, 47, 48, 49, 50, 51, 52, 53] [] (pre ++ [x], rest, a) ?_ ⟨?_, ?_, ?_⟩ ?_)
             · simp
             · exact cut_snoc he.out
             · rfl
             · first | rfl | assumption | (simp_all [eqz_end, eqz_mid, eqz_nil, Ent_eq]; done) | grind [eqz_end, eqz_mid, eqz_nil, Ent_eq]
             · first | (simp -implicitDefEqProofs only [SD, SF, SL, e_nf, reduceCtorEq, implies_true, ↓reduceIte, Nat.reduceEqDiff, Nat.reduceAdd, Nat.reduceMul, Nat.reduceSub, Nat.reduceLeDiff, Nat.reduceLT, Int.reduceLT, Int.reduceLE, Int.reduceEq, Int.reduceToNat, Int.reduceAdd, Int.reduceSub, Int.reduceNeg, Int.reduceBEq, Int.reduceBNe, Nat.reduceBEq, Int.cast_ofNat_Int, decide_true, decide_false, ne_eq, eq_self_iff_true, beq_eq_false_iff_ne, bne_iff_ne, List.replicate, eqz_end, eqz_mid, eqz_nil] <;> simp <;> done) | (simp -implicitDefEqProofs only [SD, SF, SL, e_nf, reduceCtorEq, implies_true, ↓reduceIte, Nat.reduceEqDiff, Nat.reduceAdd, Nat.reduceMul, Nat.reduceSub, Nat.reduceLeDiff, Nat.reduceLT, Int.reduceLT, Int.reduceLE, Int.reduceEq, Int.reduceToNat, Int.reduceAdd, Int.reduceSub, Int.reduceNeg, Int.reduceBEq, Int.reduceBNe, Nat.reduceBEq, Int.cast_ofNat_Int, decide_true, decide_false, ne_eq, eq_self_iff_true, beq_eq_false_iff_ne, bne_iff_ne, List.replicate, eqz_end, eqz_mid, eqz_nil, *] <;> simp_all <;> done))
          | (with_reducible refine ite_in (fun _ => ?_) (fun _ => ?_))
          | (with_reducible refine ⟨fun _ => ?_, fun _ => ?_⟩)
          | (with_reducible refine And.intro ?_ ?_)
          | (with_reducible intro _)
          | (with_reducible exact is_in _)
          | (simp -implicitDefEqProofs only [SD, SF, SL, e_nf, reduceCtorEq, implies_true, ↓reduceIte, Nat.reduceEqDiff, Nat.reduceAdd, Nat.reduceMul, Nat.reduceSub, Nat.reduceLeDiff, Nat.reduceLT, Int.reduceLT, Int.reduceLE, Int.reduceEq, Int.reduceToNat, Int.reduceAdd, Int.reduceSub, Int.reduceNeg, Int.reduceBEq, Int.reduceBNe, Nat.reduceBEq, Int.cast_ofNat_Int, decide_true, decide_false, ne_eq, eq_self_iff_true, beq_eq_false_iff_ne, bne_iff_ne, List.replicate, eqz_end, eqz_mid, eqz_nil, *]))))
        all_goals (first | (simp_all [eqz_end, eqz_mid, eqz_nil, Ent_eq]; done) | trace_state)
  · have hne : a ≠ b := fun e => h (by rw [e])
    iterate 30 (all_goals (try (first
      | (with_reducible refine ite_in (fun _ => ?_) (fun _ => ?_))
      | (with_reducible refine ⟨fun _ => ?_, fun _ => ?_⟩)
      | (with_reducible refine And.intro ?_ ?_)
      | (with_reducible intro _)
      | (with_reducible exact is_in _)
      | (simp -implicitDefEqProofs only [SD, SF, SL, e_nf, reduceCtorEq, implies_true, ↓reduceIte, Nat.reduceEqDiff, Nat.reduceAdd, Nat.reduceMul, Nat.reduceSub, Nat.reduceLeDiff, Nat.reduceLT, Int.reduceLT, Int.reduceLE, Int.reduceEq, Int.reduceToNat, Int.reduceAdd, Int.reduceSub, Int.reduceNeg, Int.reduceBEq, Int.reduceBNe, Nat.reduceBEq, Int.cast_ofNat_Int, decide_true, decide_false, ne_eq, eq_self_iff_true, beq_eq_false_iff_ne, bne_iff_ne, List.replicate, len_cast, *]))))
    all_goals (simp_all)

end Go.Proofs.YtcolebkklojccaaGreat.E
