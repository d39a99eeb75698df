/-
  ItI: walks of functions of the program at data level.
-/
import Derived.Test.YtcolebkklojccaaGreatProg
import Derived.Test.YtcolebkklojccaaGreatEngZ
import Derived.Test.YtcolebkklojccaaGreatItH
import Derived.Test.YtcolebkklojccaaGreatItG
import Derived.Test.YtcolebkklojccaaGreatItF
import Derived.KernelRfl
set_option linter.unusedVariables false
set_option linter.unusedSimpArgs false
namespace Go.Proofs.YtcolebkklojccaaGreat.E
open Go
set_option maxHeartbeats 4000000
set_option maxRecDepth 100000
set_option linter.unusedSimpArgs false
set_option linter.unusedVariables false
attribute [local congr] c_wp c_ops c_op c_opS c_run c_runS c_dt c_seq c_blk c_loop c_S c_put c_bind c_mv c_pick c_nt c_ng c_bin c_binI c_binS c_beq c_B c_eqa c_hd c_cells c_blkK c_box c_vec c_mp c_nck c_mks c_appn c_mkm c_mput c_mlk c_mrm c_take c_ld c_ldF c_cellsK c_st c_fld c_fldv c_ix c_ixp c_ixv c_ixs c_sub c_subs c_len c_lens c_src c_dst c_ow c_app c_ext c_mm c_conv c_str c_isn c_fill c_rows c_boxo c_frz c_frzO c_frzA c_frzV c_spec c_specO c_opsP c_opP c_runP c_specP c_Z c_qretP c_fz c_fn c_gv c_cond c_res1 c_resL c_ret c_qret c_ite c_unr c_nx c_bk c_cut c_is
attribute [local irreducible] dwp

def greatR (es : List Ev) (st : List Ent) (ids : List Int) : Bool := greatE es 14 || (greatS st || (decide (20 < ids.length) || !decide (chkS st = 0)))
theorem greatS_len {st : List Ent} (h : greatS st = false) : st.length ≤ 20 := by
  unfold greatS at h
  simp only [Bool.or_eq_false_iff, decide_eq_false_iff_not] at h
  omega
def ac4 : AC := (.seq (.ops [⟨(some 6), none, (.mv (.c (.bool false)))⟩]) (.seq (.ops [⟨(some 7), none, (.mv (.t 0))⟩, ⟨(some 8), none, (.call false 9 [(.t 7), (.c (.int .i64 14))])⟩, ⟨(some 9), none, (.mv (.t 8))⟩, ⟨(some 10), (some (9, false)), (.mv (.t 1))⟩, ⟨(some 11), (some (9, false)), (.buildSl 24 1 1 [.e0] [(0, (.t 10))])⟩, ⟨(some 12), (some (9, false)), (.call false 10 [(.t 11)])⟩, ⟨(some 13), none, (.pick (.t 9) (.c (.bool true)) (.t 12))⟩, ⟨(some 14), none, (.mv (.t 13))⟩, ⟨(some 15), (some (14, false)), (.mv (.t 2))⟩, ⟨(some 16), (some (14, false)), (.len (.t 15))⟩, ⟨(some 17), (some (14, false)), (.bin .gtr (.t 16) (.c (.int .i64 20)))⟩, ⟨(some 18), none, (.pick (.t 14) (.c (.bool true)) (.t 17))⟩, ⟨(some 19), none, (.mv (.t 18))⟩, ⟨(some 20), (some (19, false)), (.mv (.t 1))⟩, ⟨(some 21), (some (19, false)), (.call false 11 [(.t 20)])⟩, ⟨(some 22), (some (19, false)), (.bin .neq (.t 21) (.c (.int .i64 0)))⟩, ⟨(some 23), none, (.pick (.t 19) (.c (.bool true)) (.t 22))⟩, ⟨(some 6), none, (.mv (.t 23))⟩]) .ret))
theorem tr4 : Tryz.f4.body.bind (trCode Tryz.prog) = some (strip ac4) := by kernel_rfl
theorem spec4 (es : List Ev) (st : List Ent) (ids : List Int) : Spec Tryz.prog 4 [.fz (.sl 29 (es.map encEv)), .fz (.sl 3 (st.map encEnt)), .fz (.sl 1 (ids.map encN))] (.fz (.bool (greatR es st ids))) := by
  refine spec_at (n := 21) (ars := [(.t 6)]) (ac := ac4) Tryz.func4 (by kernel_rfl) (by kernel_rfl) tr4 (by kernel_rfl) ?_
  unfold ac4
  unfold greatR
  cases h1 : greatS st
  · have h2 := greatS_len h1
    iterate 50 (all_goals (try (first
      | ((with_reducible refine of_kSpec ?_); refine call_fz (spec9 es 14) rfl ?_)
      | ((with_reducible refine of_kSpec ?_); refine call_fz (spec10 st) rfl ?_)
      | ((with_reducible refine of_kSpec ?_); refine call_fz (spec11 st (by omega)) rfl ?_)
      | (with_reducible refine ite_in (fun _ => ?_) (fun _ => ?_))
      | (with_reducible refine ⟨fun _ => ?_, fun _ => ?_⟩)
      | (with_reducible refine And.intro ?_ ?_)
      | (with_reducible intro _)
      | (with_reducible exact is_in _)
      | (simp -implicitDefEqProofs only [SD, SF, SL, e_nf, reduceCtorEq, implies_true, ↓reduceIte, Nat.reduceEqDiff, Nat.reduceAdd, Nat.reduceMul, Nat.reduceSub, Nat.reduceLeDiff, Nat.reduceLT, Int.reduceLT, Int.reduceLE, Int.reduceEq, Int.reduceToNat, Int.reduceAdd, Int.reduceSub, Int.reduceNeg, Int.reduceBEq, Int.reduceBNe, Nat.reduceBEq, Int.cast_ofNat_Int, decide_true, decide_false, ne_eq, eq_self_iff_true, beq_eq_false_iff_ne, bne_iff_ne, List.replicate, *]))))
    all_goals (first | (simp_all; done) | (simp_all; omega) | trace_state)
  · skip
    iterate 50 (all_goals (try (first
      | ((with_reducible refine of_kSpec ?_); refine call_fz (spec9 es 14) rfl ?_)
      | ((with_reducible refine of_kSpec ?_); refine call_fz (spec10 st) rfl ?_)
      | (with_reducible refine ite_in (fun _ => ?_) (fun _ => ?_))
      | (with_reducible refine ⟨fun _ => ?_, fun _ => ?_⟩)
      | (with_reducible refine And.intro ?_ ?_)
      | (with_reducible intro _)
      | (with_reducible exact is_in _)
      | (simp -implicitDefEqProofs only [SD, SF, SL, e_nf, reduceCtorEq, implies_true, ↓reduceIte, Nat.reduceEqDiff, Nat.reduceAdd, Nat.reduceMul, Nat.reduceSub, Nat.reduceLeDiff, Nat.reduceLT, Int.reduceLT, Int.reduceLE, Int.reduceEq, Int.reduceToNat, Int.reduceAdd, Int.reduceSub, Int.reduceNeg, Int.reduceBEq, Int.reduceBNe, Nat.reduceBEq, Int.cast_ofNat_Int, decide_true, decide_false, ne_eq, eq_self_iff_true, beq_eq_false_iff_ne, bne_iff_ne, List.replicate, *]))))
    all_goals (first | (simp_all; done) | (simp_all; omega) | trace_state)

def ac14 : AC := (.seq (.ops [⟨(some 2), none, (.mv (.c .e0))⟩]) (.seq (.ops [⟨(some 3), none, (.mv (.c .e0))⟩]) (.seq (.seq (.ops [⟨(some 4), none, (.mv (.c (.int .i64 0)))⟩]) (.block 0 (.loop (.seq (.seq (.ops [⟨(some 5), none, (.mv (.t 4))⟩, ⟨(some 6), none, (.mv (.t 0))⟩, ⟨(some 7), none, (.len (.t 6))⟩, ⟨(some 8), none, (.bin .lss (.t 5) (.t 7))⟩]) (.cond (.t 8) .skip (.exit 0))) (.seq (.block 1 (.ops [⟨(some 11), none, (.mv (.t 3))⟩, ⟨(some 12), none, (.mv (.t 0))⟩, ⟨(some 13), none, (.mv (.t 4))⟩, ⟨(some 14), none, (.ix 29 (.t 12) (.t 13))⟩, ⟨(some 15), none, (.fld 0 (.t 14))⟩, ⟨(some 16), none, (.ld false 1 (.t 15))⟩, ⟨(some 17), none, (.buildSl 3 1 1 [(.int .i64 0)] [(0, (.t 16))])⟩, ⟨(some 18), none, (.app 3 1 8 (.t 11) (.t 17))⟩, ⟨(some 3), none, (.mv (.t 18))⟩])) (.ops [⟨(some 9), none, (.mv (.t 4))⟩, ⟨(some 10), none, (.bin .add (.t 9) (.c (.int .i64 1)))⟩, ⟨(some 4), none, (.mv (.t 10))⟩])))))) (.seq (.ops [⟨(some 19), none, (.mv (.t 3))⟩, ⟨(some 2), none, (.mv (.t 19))⟩]) .ret))))
theorem tr14 : Tryz.f14.body.bind (trCode Tryz.prog) = some (strip ac14) := by kernel_rfl
theorem spec14 (es : List Ev) (hb : es.length ≤ 1000) : Spec Tryz.prog 14 [.fz (.sl 29 (es.map encEv))] (.fz (.sl 1 ((es.map Ev.ident).map encN))) := by
  refine spec_at (n := 19) (ars := [(.t 2)]) (ac := ac14) Tryz.func14 (by kernel_rfl) (by kernel_rfl) tr14 (by kernel_rfl) ?_
  unfold ac14
  iterate 8 (all_goals (try (first
    | (with_reducible refine ite_in (fun _ => ?_) (fun _ => ?_))
    | (with_reducible refine ⟨fun _ => ?_, fun _ => ?_⟩)
    | (with_reducible refine And.intro ?_ ?_)
    | (with_reducible intro _)
    | (with_reducible exact is_in _)
    | (simp -implicitDefEqProofs only [SD, SF, SL, e_nf, reduceCtorEq, implies_true, ↓reduceIte, Nat.reduceEqDiff, Nat.reduceAdd, Nat.reduceMul, Nat.reduceSub, Nat.reduceLeDiff, Nat.reduceLT, Int.reduceLT, Int.reduceLE, Int.reduceEq, Int.reduceToNat, Int.reduceAdd, Int.reduceSub, Int.reduceNeg, Int.reduceBEq, Int.reduceBNe, Nat.reduceBEq, Int.cast_ofNat_Int, decide_true, decide_false, ne_eq, eq_self_iff_true, beq_eq_false_iff_ne, bne_iff_ne, List.replicate, *]))))
  refine loop_r (X := List Ev × List Ev × (DV × List (Nat × Blk))) (fun n x => es = x.1 ++ x.2.1 ∧ n = x.2.1.length ∧ ((x.1 = [] ∧ x.2.2 = (DV.e0, [])) ∨ x.2.2 = (DV.ow 18, [(18, Blk.vec 3 1 ((x.1.map Ev.ident).map encN))]))) (fun x => [(4, .int .i64 x.1.length), (3, x.2.2.1)]) (fun x => x.2.2.2) [5, 6, 7, 8, 9, 10, 11, 12, 13, 14, 15, 16, 17, 18] [17, 18] [17] (es).length ([], es, (DV.e0, [])) ⟨rfl, rfl, by exact .inl ⟨rfl, rfl⟩⟩ ?_ ?_
  · simp -implicitDefEqProofs only [SD, SF, SL, e_nf, reduceCtorEq, implies_true, ↓reduceIte, Nat.reduceEqDiff, Nat.reduceAdd, Nat.reduceMul, Nat.reduceSub, Nat.reduceLeDiff, Nat.reduceLT, Int.reduceLT, Int.reduceLE, Int.reduceEq, Int.reduceToNat, Int.reduceAdd, Int.reduceSub, Int.reduceNeg, Int.reduceBEq, Int.reduceBNe, Nat.reduceBEq, Int.cast_ofNat_Int, decide_true, decide_false, ne_eq, eq_self_iff_true, beq_eq_false_iff_ne, bne_iff_ne, List.replicate, encEv, encN, List.length_map] <;> simp
  · rintro n ⟨pre, rest, a⟩ ⟨he, rfl, hI⟩
    dsimp only at he hI
    cases rest with
    | nil =>
      obtain rfl : es = pre := by simpa using he
      clear he
      have hlt : ¬ (((es).length : Int) < ((es).length : Int)) := Int.lt_irrefl _
      rcases hI with ⟨hl0, rfl⟩ | rfl
      all_goals try replace hl0 := Hd.mk hl0
      iterate 30 (all_goals (try (first
        | (with_reducible refine ite_in (fun _ => ?_) (fun _ => ?_))
        | (with_reducible refine ⟨fun _ => ?_, fun _ => ?_⟩)
        | (with_reducible refine And.intro ?_ ?_)
        | (with_reducible intro _)
        | (with_reducible exact is_in _)
        | (simp -implicitDefEqProofs only [SD, SF, SL, e_nf, reduceCtorEq, implies_true, ↓reduceIte, Nat.reduceEqDiff, Nat.reduceAdd, Nat.reduceMul, Nat.reduceSub, Nat.reduceLeDiff, Nat.reduceLT, Int.reduceLT, Int.reduceLE, Int.reduceEq, Int.reduceToNat, Int.reduceAdd, Int.reduceSub, Int.reduceNeg, Int.reduceBEq, Int.reduceBNe, Nat.reduceBEq, Int.cast_ofNat_Int, decide_true, decide_false, ne_eq, eq_self_iff_true, beq_eq_false_iff_ne, bne_iff_ne, List.replicate, encEv, encN, List.length_map, *]))))
      all_goals (first | decide | (simp only [maxLen, List.length_append, List.length_map, List.length_cons, List.length_nil] <;> omega) | omega | (rw [hl0.out]; first | exact .inl rfl | rfl | simp) | (simp_all; done) | trace_state)

    | cons x rest =>
      have hlt := cut_lt he
      have hx := cutD encEv he
      simp only [encEv] at hx
      simp -implicitDefEqProofs only [SD, SF, SL, e_nf, reduceCtorEq, implies_true, ↓reduceIte, Nat.reduceEqDiff, Nat.reduceAdd, Nat.reduceMul, Nat.reduceSub, Nat.reduceLeDiff, Nat.reduceLT, Int.reduceLT, Int.reduceLE, Int.reduceEq, Int.reduceToNat, Int.reduceAdd, Int.reduceSub, Int.reduceNeg, Int.reduceBEq, Int.reduceBNe, Nat.reduceBEq, Int.cast_ofNat_Int, decide_true, decide_false, ne_eq, eq_self_iff_true, beq_eq_false_iff_ne, bne_iff_ne, List.replicate, encEv, encN, List.length_map, hlt]
      intro hl
      have hw := wrap_len (n := pre.length) (m := (es).length) (cut_lt' he) (by simp only [maxLen]; omega)
      replace he := Hd.mk he
      have hz1 := cut_lt' he.out
      have hz2 : pre.length + 1 ≤ maxLen := by simp only [maxLen]; omega
      have hz3 : (pre.length + 1) * 8 ≤ 140737488355328 := by omega
      rcases hI with ⟨hp0, rfl⟩ | rfl
      all_goals try replace hp0 := Hd.mk hp0
      iterate 30 (all_goals (try (first
        | ((with_reducible refine back_in rest.length [5, 6, 7, 8, 9, 10, 11, 12, 13, 14, 15, 16, 17, 18] [17] (pre ++ [x], rest, (DV.ow 18, [(18, Blk.vec 3 1 ((pre.map Ev.ident).map encN ++ [encN x.ident]))])) ?_ ⟨?_, ?_, ?_⟩ ?_)
           · simp
           · exact cut_snoc he.out
           · rfl
           · first | (right; rw [List.map_append, List.map_append]; rfl) | (right; rw [hp0.out]; rfl)
           · first | (simp -implicitDefEqProofs only [SD, SF, SL, e_nf, reduceCtorEq, implies_true, ↓reduceIte, Nat.reduceEqDiff, Nat.reduceAdd, Nat.reduceMul, Nat.reduceSub, Nat.reduceLeDiff, Nat.reduceLT, Int.reduceLT, Int.reduceLE, Int.reduceEq, Int.reduceToNat, Int.reduceAdd, Int.reduceSub, Int.reduceNeg, Int.reduceBEq, Int.reduceBNe, Nat.reduceBEq, Int.cast_ofNat_Int, decide_true, decide_false, ne_eq, eq_self_iff_true, beq_eq_false_iff_ne, bne_iff_ne, List.replicate, encEv, encN, List.length_map] <;> simp <;> done) | (simp -implicitDefEqProofs only [SD, SF, SL, e_nf, reduceCtorEq, implies_true, ↓reduceIte, Nat.reduceEqDiff, Nat.reduceAdd, Nat.reduceMul, Nat.reduceSub, Nat.reduceLeDiff, Nat.reduceLT, Int.reduceLT, Int.reduceLE, Int.reduceEq, Int.reduceToNat, Int.reduceAdd, Int.reduceSub, Int.reduceNeg, Int.reduceBEq, Int.reduceBNe, Nat.reduceBEq, Int.cast_ofNat_Int, decide_true, decide_false, ne_eq, eq_self_iff_true, beq_eq_false_iff_ne, bne_iff_ne, List.replicate, encEv, encN, List.length_map, *] <;> simp_all <;> done))
        | ((with_reducible refine back_in rest.length [5, 6, 7, 8, 9, 10, 11, 12, 13, 14, 15, 16, 17, 18] [17] (pre ++ [x], rest, (DV.ow 18, [(18, Blk.vec 3 1 ([encN x.ident]))])) ?_ ⟨?_, ?_, ?_⟩ ?_)
           · simp
           · exact cut_snoc he.out
           · rfl
           · first | (right; rw [List.map_append, List.map_append]; rfl) | (right; rw [hp0.out]; rfl)
           · first | (simp -implicitDefEqProofs only [SD, SF, SL, e_nf, reduceCtorEq, implies_true, ↓reduceIte, Nat.reduceEqDiff, Nat.reduceAdd, Nat.reduceMul, Nat.reduceSub, Nat.reduceLeDiff, Nat.reduceLT, Int.reduceLT, Int.reduceLE, Int.reduceEq, Int.reduceToNat, Int.reduceAdd, Int.reduceSub, Int.reduceNeg, Int.reduceBEq, Int.reduceBNe, Nat.reduceBEq, Int.cast_ofNat_Int, decide_true, decide_false, ne_eq, eq_self_iff_true, beq_eq_false_iff_ne, bne_iff_ne, List.replicate, encEv, encN, List.length_map] <;> simp <;> done) | (simp -implicitDefEqProofs only [SD, SF, SL, e_nf, reduceCtorEq, implies_true, ↓reduceIte, Nat.reduceEqDiff, Nat.reduceAdd, Nat.reduceMul, Nat.reduceSub, Nat.reduceLeDiff, Nat.reduceLT, Int.reduceLT, Int.reduceLE, Int.reduceEq, Int.reduceToNat, Int.reduceAdd, Int.reduceSub, Int.reduceNeg, Int.reduceBEq, Int.reduceBNe, Nat.reduceBEq, Int.cast_ofNat_Int, decide_true, decide_false, ne_eq, eq_self_iff_true, beq_eq_false_iff_ne, bne_iff_ne, List.replicate, encEv, encN, List.length_map, *] <;> simp_all <;> done))
        | (with_reducible refine ite_in (fun _ => ?_) (fun _ => ?_))
        | (with_reducible refine ⟨fun _ => ?_, fun _ => ?_⟩)
        | (with_reducible refine And.intro ?_ ?_)
        | (with_reducible intro _)
        | (with_reducible exact is_in _)
        | (simp -implicitDefEqProofs only [SD, SF, SL, e_nf, reduceCtorEq, implies_true, ↓reduceIte, Nat.reduceEqDiff, Nat.reduceAdd, Nat.reduceMul, Nat.reduceSub, Nat.reduceLeDiff, Nat.reduceLT, Int.reduceLT, Int.reduceLE, Int.reduceEq, Int.reduceToNat, Int.reduceAdd, Int.reduceSub, Int.reduceNeg, Int.reduceBEq, Int.reduceBNe, Nat.reduceBEq, Int.cast_ofNat_Int, decide_true, decide_false, ne_eq, eq_self_iff_true, beq_eq_false_iff_ne, bne_iff_ne, List.replicate, encEv, encN, List.length_map, *]))))
      all_goals (first | decide | (simp only [maxLen, List.length_append, List.length_map, List.length_cons, List.length_nil] <;> omega) | omega | (rw [hl0.out]; first | exact .inl rfl | rfl | simp) | (simp_all; done) | trace_state)

end Go.Proofs.YtcolebkklojccaaGreat.E

namespace Go.Proofs.YtcolebkklojccaaGreat.E
open Go
set_option maxHeartbeats 4000000
set_option maxRecDepth 100000
set_option linter.unusedSimpArgs false
set_option linter.unusedVariables false
attribute [local congr] c_wp c_ops c_op c_opS c_run c_runS c_dt c_seq c_blk c_loop c_S c_put c_bind c_mv c_pick c_nt c_ng c_bin c_binI c_binS c_beq c_B c_eqa c_hd c_cells c_blkK c_box c_vec c_mp c_nck c_mks c_appn c_mkm c_mput c_mlk c_mrm c_take c_ld c_ldF c_cellsK c_st c_fld c_fldv c_ix c_ixp c_ixv c_ixs c_sub c_subs c_len c_lens c_src c_dst c_ow c_app c_ext c_mm c_conv c_str c_isn c_fill c_rows c_boxo c_frz c_frzO c_frzA c_frzV c_spec c_specO c_opsP c_opP c_runP c_specP c_Z c_qretP c_fz c_fn c_gv c_cond c_res1 c_resL c_ret c_qret c_ite c_unr c_nx c_bk c_cut c_is
attribute [local irreducible] dwp

def annB : List UInt8 := [64, 97, 110, 110, 58, 97]
def a1E : Ev := { zE with ident := 1, room := [33, 114, 58, 97], sender := annB, kind := 1, isState := true }
def a2E : Ev := { zE with ident := 2, room := [33, 114, 58, 97], sender := annB, kind := 2, isState := true, key := annB, prev := [1], auth := [1], n := 3 }
theorem live1 : applyR [a1E, a2E] [] [1, 2, 3] = [⟨1, [], 1⟩, ⟨2, annB, 2⟩] := by kernel_rfl
theorem live2 : baseG getS [a1E, a2E] [] a2E = [a1E] := by kernel_rfl
theorem live3 : applyR [a1E, a2E] [] [2, 3] = [⟨2, annB, 2⟩] := by kernel_rfl
theorem live4 : applyR [a1E, a2E] [] [] = [] := rfl
theorem liveS : smallE [a1E, a2E] := by unfold smallE; decide
def ac5 : AC := (.seq (.ops [⟨(some 0), none, (.mv (.c (.bool false)))⟩]) (.seq (.ops [⟨(some 4), none, (.build [(.int .i64 0), (.str []), (.str []), (.int .i64 0), (.bool false), (.str []), (.int .i64 0), (.int .i64 0), .e0, .e0, (.str []), (.int .i64 0), (.int .i64 0), (.bool false), (.str []), .e0, .e0, .e0, .e0, (.int .i64 0), (.int .i64 0), (.int .i64 0), (.int .i64 0), (.int .i64 0), (.int .i64 0), (.int .i64 0), (.int .i64 0), (.str []), (.int .i64 0)] [(0, (1, (.c (.int .i64 1)))), (1, (1, (.c (.str [33, 114, 58, 97])))), (2, (1, (.c (.str [64, 97, 110, 110, 58, 97])))), (3, (1, (.c (.int .i64 1)))), (4, (1, (.c (.bool true))))])⟩, ⟨(some 5), none, (.buildSl 3 1 1 [(.int .i64 0)] [(0, (.c (.int .i64 1)))])⟩, ⟨(some 6), none, (.buildSl 3 1 1 [(.int .i64 0)] [(0, (.c (.int .i64 1)))])⟩, ⟨(some 7), none, (.build [(.str []), (.int .i64 0), (.int .i64 0), (.bool false), (.str []), .e0, .e0, .e0, .e0, (.int .i64 0), (.int .i64 0), (.int .i64 0), (.int .i64 0), (.int .i64 0), (.int .i64 0), (.int .i64 0)] [(1, (1, (.c (.int .i64 3))))])⟩, ⟨(some 8), none, (.build [(.int .i64 0), (.str []), (.str []), (.int .i64 0), (.bool false), (.str []), (.int .i64 0), (.int .i64 0), .e0, .e0, (.str []), (.int .i64 0), (.int .i64 0), (.bool false), (.str []), .e0, .e0, .e0, .e0, (.int .i64 0), (.int .i64 0), (.int .i64 0), (.int .i64 0), (.int .i64 0), (.int .i64 0), (.int .i64 0), (.int .i64 0), (.str []), (.int .i64 0)] [(0, (1, (.c (.int .i64 2)))), (1, (1, (.c (.str [33, 114, 58, 97])))), (2, (1, (.c (.str [64, 97, 110, 110, 58, 97])))), (3, (1, (.c (.int .i64 2)))), (4, (1, (.c (.bool true)))), (5, (1, (.c (.str [64, 97, 110, 110, 58, 97])))), (8, (1, (.t 5))), (9, (1, (.t 6))), (10, (16, (.t 7)))])⟩, ⟨(some 9), none, (.buildSl 46 29 2 [(.int .i64 0), (.str []), (.str []), (.int .i64 0), (.bool false), (.str []), (.int .i64 0), (.int .i64 0), .e0, .e0, (.str []), (.int .i64 0), (.int .i64 0), (.bool false), (.str []), .e0, .e0, .e0, .e0, (.int .i64 0), (.int .i64 0), (.int .i64 0), (.int .i64 0), (.int .i64 0), (.int .i64 0), (.int .i64 0), (.int .i64 0), (.str []), (.int .i64 0)] [(0, (.t 4)), (1, (.t 8))])⟩, ⟨(some 1), none, (.mv (.t 9))⟩]) (.seq (.ops [⟨(some 10), none, (.mv (.t 1))⟩, ⟨(some 11), none, (.buildSl 3 1 3 [(.int .i64 0)] [(0, (.c (.int .i64 1))), (1, (.c (.int .i64 2))), (2, (.c (.int .i64 3)))])⟩, ⟨(some 12), none, (.call false 7 [(.t 10), (.c .e0), (.t 11)])⟩, ⟨(some 2), none, (.mv (.t 12))⟩]) (.seq (.ops [⟨(some 13), none, (.mv (.t 1))⟩, ⟨(some 14), none, (.mv (.t 1))⟩, ⟨(some 15), none, (.ix 29 (.t 14) (.c (.int .i64 1)))⟩, ⟨(some 16), none, (.ld true 29 (.t 15))⟩, ⟨(some 17), none, (.call false 12 [(.t 13), (.c .e0), (.t 16)])⟩, ⟨(some 3), none, (.mv (.t 17))⟩]) (.seq (.ops [⟨(some 18), none, (.mv (.t 2))⟩, ⟨(some 19), none, (.len (.t 18))⟩, ⟨(some 20), none, (.bin .eql (.t 19) (.c (.int .i64 2)))⟩, ⟨(some 21), none, (.mv (.t 20))⟩, ⟨(some 22), (some (21, true)), (.mv (.t 2))⟩, ⟨(some 23), (some (21, true)), (.ix 3 (.t 22) (.c (.int .i64 0)))⟩, ⟨(some 24), (some (21, true)), (.fld 2 (.t 23))⟩, ⟨(some 25), (some (21, true)), (.ld false 1 (.t 24))⟩, ⟨(some 26), (some (21, true)), (.bin .eql (.t 25) (.c (.int .i64 1)))⟩, ⟨(some 27), none, (.pick (.t 21) (.t 26) (.c (.bool false)))⟩, ⟨(some 28), none, (.mv (.t 27))⟩, ⟨(some 29), (some (28, true)), (.mv (.t 2))⟩, ⟨(some 30), (some (28, true)), (.ix 3 (.t 29) (.c (.int .i64 1)))⟩, ⟨(some 31), (some (28, true)), (.fld 2 (.t 30))⟩, ⟨(some 32), (some (28, true)), (.ld false 1 (.t 31))⟩, ⟨(some 33), (some (28, true)), (.bin .eql (.t 32) (.c (.int .i64 2)))⟩, ⟨(some 34), none, (.pick (.t 28) (.t 33) (.c (.bool false)))⟩, ⟨(some 35), none, (.mv (.t 34))⟩, ⟨(some 36), (some (35, true)), (.mv (.t 2))⟩, ⟨(some 37), (some (35, true)), (.ix 3 (.t 36) (.c (.int .i64 1)))⟩, ⟨(some 38), (some (35, true)), (.fld 1 (.t 37))⟩, ⟨(some 39), (some (35, true)), (.ld false 1 (.t 38))⟩, ⟨(some 40), (some (35, true)), (.bin .eql (.t 39) (.c (.str [64, 97, 110, 110, 58, 97])))⟩, ⟨(some 41), none, (.pick (.t 35) (.t 40) (.c (.bool false)))⟩, ⟨(some 42), none, (.mv (.t 41))⟩, ⟨(some 43), (some (42, true)), (.mv (.t 3))⟩, ⟨(some 44), (some (42, true)), (.call false 14 [(.t 43)])⟩, ⟨(some 45), (some (42, true)), (.buildSl 3 1 1 [(.int .i64 0)] [(0, (.c (.int .i64 1)))])⟩, ⟨(some 46), (some (42, true)), (.call false 13 [(.t 44), (.t 45)])⟩, ⟨(some 47), none, (.pick (.t 42) (.t 46) (.c (.bool false)))⟩, ⟨(some 48), none, (.mv (.t 47))⟩, ⟨(some 49), (some (48, true)), (.mv (.t 1))⟩, ⟨(some 50), (some (48, true)), (.buildSl 3 1 2 [(.int .i64 0)] [(0, (.c (.int .i64 2))), (1, (.c (.int .i64 3)))])⟩, ⟨(some 51), (some (48, true)), (.call false 7 [(.t 49), (.c .e0), (.t 50)])⟩, ⟨(some 52), (some (48, true)), (.len (.t 51))⟩, ⟨(some 53), (some (48, true)), (.bin .eql (.t 52) (.c (.int .i64 1)))⟩, ⟨(some 54), none, (.pick (.t 48) (.t 53) (.c (.bool false)))⟩, ⟨(some 55), none, (.mv (.t 54))⟩, ⟨(some 56), (some (55, true)), (.mv (.t 1))⟩, ⟨(some 57), (some (55, true)), (.call false 7 [(.t 56), (.c .e0), (.c .e0)])⟩, ⟨(some 58), (some (55, true)), (.len (.t 57))⟩, ⟨(some 59), (some (55, true)), (.bin .eql (.t 58) (.c (.int .i64 0)))⟩, ⟨(some 60), none, (.pick (.t 55) (.t 59) (.c (.bool false)))⟩, ⟨(some 0), none, (.mv (.t 60))⟩]) .ret)))))
theorem tr5 : Tryz.f5.body.bind (trCode Tryz.prog) = some (strip ac5) := by kernel_rfl
theorem spec5  : Spec Tryz.prog 5 [] (.fz (.bool true)) := by
  refine spec_at (n := 61) (ars := [(.t 0)]) (ac := ac5) Tryz.func5 (by kernel_rfl) (by kernel_rfl) tr5 (by kernel_rfl) ?_
  unfold ac5
  have q1 := spec7 [a1E, a2E] [] [1, 2, 3] (by decide) (by decide) liveS
  have q2 := spec12 [a1E, a2E] [] a2E (by decide) (by decide)
  have q3 := spec7 [a1E, a2E] [] [2, 3] (by decide) (by decide) liveS
  have q4 := spec7 [a1E, a2E] [] [] (by decide) (by decide) liveS
  have q5 := spec14 [a1E] (by decide)
  have q6 := spec13 [1] [1]
  rw [live1] at q1
  rw [live2] at q2
  rw [live3] at q3
  rw [live4] at q4
  rw [show [a1E].map Ev.ident = [1] from rfl] at q5
  iterate 60 (all_goals (try (first
    | ((with_reducible refine of_kSpec ?_)
       refine call_sub (ds' := [.sl 29 ([a1E, a2E].map encEv), .sl 3 (([] : List Ent).map encEnt), .sl 1 (([1, 2, 3] : List Int).map encN)]) (q1) rfl ?_ ?_
       · simp -implicitDefEqProofs only [SD, SF, SL, e_nf, reduceCtorEq, implies_true, ↓reduceIte, Nat.reduceEqDiff, Nat.reduceAdd, Nat.reduceMul, Nat.reduceSub, Nat.reduceLeDiff, Nat.reduceLT, Int.reduceLT, Int.reduceLE, Int.reduceEq, Int.reduceToNat, Int.reduceAdd, Int.reduceSub, Int.reduceNeg, Int.reduceBEq, Int.reduceBNe, Nat.reduceBEq, Int.cast_ofNat_Int, decide_true, decide_false, ne_eq, eq_self_iff_true, beq_eq_false_iff_ne, bne_iff_ne, List.replicate, a1E, a2E, annB, zE, encEv, encEnt, encS, encN, encLU, encLK]
         done)
    | ((with_reducible refine of_kSpec ?_)
       refine call_sub (ds' := [.sl 29 ([a1E, a2E].map encEv), .sl 3 (([] : List Ent).map encEnt), .sl 1 (([2, 3] : List Int).map encN)]) (q3) rfl ?_ ?_
       · simp -implicitDefEqProofs only [SD, SF, SL, e_nf, reduceCtorEq, implies_true, ↓reduceIte, Nat.reduceEqDiff, Nat.reduceAdd, Nat.reduceMul, Nat.reduceSub, Nat.reduceLeDiff, Nat.reduceLT, Int.reduceLT, Int.reduceLE, Int.reduceEq, Int.reduceToNat, Int.reduceAdd, Int.reduceSub, Int.reduceNeg, Int.reduceBEq, Int.reduceBNe, Nat.reduceBEq, Int.cast_ofNat_Int, decide_true, decide_false, ne_eq, eq_self_iff_true, beq_eq_false_iff_ne, bne_iff_ne, List.replicate, a1E, a2E, annB, zE, encEv, encEnt, encS, encN, encLU, encLK]
         done)
    | ((with_reducible refine of_kSpec ?_)
       refine call_sub (ds' := [.sl 29 ([a1E, a2E].map encEv), .sl 3 (([] : List Ent).map encEnt), .sl 1 (([] : List Int).map encN)]) (q4) rfl ?_ ?_
       · simp -implicitDefEqProofs only [SD, SF, SL, e_nf, reduceCtorEq, implies_true, ↓reduceIte, Nat.reduceEqDiff, Nat.reduceAdd, Nat.reduceMul, Nat.reduceSub, Nat.reduceLeDiff, Nat.reduceLT, Int.reduceLT, Int.reduceLE, Int.reduceEq, Int.reduceToNat, Int.reduceAdd, Int.reduceSub, Int.reduceNeg, Int.reduceBEq, Int.reduceBNe, Nat.reduceBEq, Int.cast_ofNat_Int, decide_true, decide_false, ne_eq, eq_self_iff_true, beq_eq_false_iff_ne, bne_iff_ne, List.replicate, a1E, a2E, annB, zE, encEv, encEnt, encS, encN, encLU, encLK]
         done)
    | ((with_reducible refine of_kSpec ?_)
       refine call_sub (ds' := [.sl 29 ([a1E, a2E].map encEv), .sl 3 (([] : List Ent).map encEnt), .agg (encEv a2E)]) (q2) rfl ?_ ?_
       · simp -implicitDefEqProofs only [SD, SF, SL, e_nf, reduceCtorEq, implies_true, ↓reduceIte, Nat.reduceEqDiff, Nat.reduceAdd, Nat.reduceMul, Nat.reduceSub, Nat.reduceLeDiff, Nat.reduceLT, Int.reduceLT, Int.reduceLE, Int.reduceEq, Int.reduceToNat, Int.reduceAdd, Int.reduceSub, Int.reduceNeg, Int.reduceBEq, Int.reduceBNe, Nat.reduceBEq, Int.cast_ofNat_Int, decide_true, decide_false, ne_eq, eq_self_iff_true, beq_eq_false_iff_ne, bne_iff_ne, List.replicate, a1E, a2E, annB, zE, encEv, encEnt, encS, encN, encLU, encLK]
         done)
    | ((with_reducible refine of_kSpec ?_)
       refine call_sub (ds' := [.sl 29 ([a1E].map encEv)]) (q5) rfl ?_ ?_
       · simp -implicitDefEqProofs only [SD, SF, SL, e_nf, reduceCtorEq, implies_true, ↓reduceIte, Nat.reduceEqDiff, Nat.reduceAdd, Nat.reduceMul, Nat.reduceSub, Nat.reduceLeDiff, Nat.reduceLT, Int.reduceLT, Int.reduceLE, Int.reduceEq, Int.reduceToNat, Int.reduceAdd, Int.reduceSub, Int.reduceNeg, Int.reduceBEq, Int.reduceBNe, Nat.reduceBEq, Int.cast_ofNat_Int, decide_true, decide_false, ne_eq, eq_self_iff_true, beq_eq_false_iff_ne, bne_iff_ne, List.replicate, a1E, a2E, annB, zE, encEv, encEnt, encS, encN, encLU, encLK]
         done)
    | ((with_reducible refine of_kSpec ?_)
       refine call_sub (ds' := [.sl 1 (([1] : List Int).map encN), .sl 1 (([1] : List Int).map encN)]) (q6) rfl ?_ ?_
       · simp -implicitDefEqProofs only [SD, SF, SL, e_nf, reduceCtorEq, implies_true, ↓reduceIte, Nat.reduceEqDiff, Nat.reduceAdd, Nat.reduceMul, Nat.reduceSub, Nat.reduceLeDiff, Nat.reduceLT, Int.reduceLT, Int.reduceLE, Int.reduceEq, Int.reduceToNat, Int.reduceAdd, Int.reduceSub, Int.reduceNeg, Int.reduceBEq, Int.reduceBNe, Nat.reduceBEq, Int.cast_ofNat_Int, decide_true, decide_false, ne_eq, eq_self_iff_true, beq_eq_false_iff_ne, bne_iff_ne, List.replicate, encN]
         done)
    | (with_reducible refine ite_in (fun _ => ?_) (fun _ => ?_))
    | (with_reducible refine ⟨fun _ => ?_, fun _ => ?_⟩)
    | (with_reducible refine And.intro ?_ ?_)
    | (with_reducible intro _)
    | (with_reducible exact is_in _)
    | (simp -implicitDefEqProofs only [SD, SF, SL, e_nf, reduceCtorEq, implies_true, ↓reduceIte, Nat.reduceEqDiff, Nat.reduceAdd, Nat.reduceMul, Nat.reduceSub, Nat.reduceLeDiff, Nat.reduceLT, Int.reduceLT, Int.reduceLE, Int.reduceEq, Int.reduceToNat, Int.reduceAdd, Int.reduceSub, Int.reduceNeg, Int.reduceBEq, Int.reduceBNe, Nat.reduceBEq, Int.cast_ofNat_Int, decide_true, decide_false, ne_eq, eq_self_iff_true, beq_eq_false_iff_ne, bne_iff_ne, List.replicate, a1E, a2E, annB, zE, encEv, encEnt, encS, encN, encLU, encLK, live1]))))
  all_goals (first | rfl | (simp; done) | (simp_all; done) | trace_state)

end Go.Proofs.YtcolebkklojccaaGreat.E
