/-
  OnW: walks of functions of the program at data level.
-/
import Derived.Test.YtcjlkbffmggekaaProg
import Derived.Test.YtcjlkbffmggekaaEngZ
import Derived.Test.YtcjlkbffmggekaaOnV
import Derived.KernelRfl
set_option linter.unusedVariables false
set_option linter.unusedSimpArgs false
namespace Go.Proofs.Ytcjlkbffmggekaa.E
open Go
set_option maxHeartbeats 4000000
set_option maxRecDepth 100000
set_option linter.unusedSimpArgs false
set_option linter.unusedVariables false
attribute [local congr] c_wp c_ops c_op c_opS c_run c_runS c_dt c_seq c_blk c_loop c_S c_put c_bind c_mv c_pick c_nt c_ng c_bin c_binI c_binS c_beq c_B c_eqa c_hd c_cells c_blkK c_box c_vec c_mp c_nck c_mks c_appn c_mkm c_mput c_mlk c_mrm c_take c_ld c_ldF c_cellsK c_st c_fld c_fldv c_ix c_ixp c_ixv c_ixs c_sub c_subs c_len c_lens c_src c_dst c_ow c_app c_ext c_mm c_conv c_str c_isn c_fill c_rows c_boxo c_frz c_frzO c_frzA c_frzV c_spec c_specO c_opsP c_opP c_runP c_specP c_Z c_qretP c_fz c_fn c_gv c_cond c_res1 c_resL c_ret c_qret c_ite c_unr c_nx c_bk c_cut c_is
attribute [local irreducible] dwp
def ac3 : AC := (.seq (.ops [⟨(some 2), none, (.mv (.c (.bool false)))⟩]) (.seq (.seq (.ops [⟨(some 3), none, (.mv (.t 0))⟩, ⟨(some 4), none, (.call false 8 [(.t 3)])⟩]) (.cond (.t 4) (.seq (.ops [⟨(some 5), none, (.call false 9 [])⟩, ⟨(some 2), none, (.mv (.t 5))⟩]) .ret) .skip)) (.seq (.ops [⟨(some 6), none, (.mv (.t 0))⟩, ⟨(some 7), none, (.call false 10 [(.t 6)])⟩, ⟨(some 8), none, (.mv (.t 0))⟩, ⟨(some 9), none, (.call false 11 [(.t 8)])⟩, ⟨(some 10), none, (.bin .eql (.t 7) (.t 9))⟩, ⟨(some 11), none, (.mv (.t 10))⟩, ⟨(some 12), (some (11, true)), (.call false 9 [])⟩, ⟨(some 13), none, (.pick (.t 11) (.t 12) (.c (.bool false)))⟩, ⟨(some 2), none, (.mv (.t 13))⟩]) .ret)))
theorem tr3 : Try.f3.body.bind (trCode Try.prog) = some (strip ac3) := by kernel_rfl
theorem spec3 (l : List OT) : Spec Try.prog 3 [.fz (.sl 4 (l.map encOT))] (.fz (.bool true)) := by
  refine spec_at (n := 13) (ars := [(.t 2)]) (ac := ac3) Try.func3 (by kernel_rfl) (by kernel_rfl) tr3 (by kernel_rfl) ?_
  unfold ac3
  by_cases hg : 50 < l.length
  · skip
    iterate 30 (all_goals (try (first
      | ((with_reducible refine of_kSpec ?_); refine call_fz (spec8 l) rfl ?_)
      | ((with_reducible refine of_kSpec ?_); refine call_fz (spec9) rfl ?_)
      | (with_reducible refine ite_in (fun _ => ?_) (fun _ => ?_))
      | (with_reducible refine ⟨fun _ => ?_, fun _ => ?_⟩)
      | (with_reducible refine And.intro ?_ ?_)
      | (with_reducible intro _)
      | (with_reducible exact is_in _)
      | (simp -implicitDefEqProofs only [SD, SF, SL, e_nf, reduceCtorEq, implies_true, ↓reduceIte, Nat.reduceEqDiff, Nat.reduceAdd, Nat.reduceMul, Nat.reduceSub, Nat.reduceLeDiff, Nat.reduceLT, Int.reduceLT, Int.reduceLE, Int.reduceEq, Int.reduceToNat, Int.reduceAdd, Int.reduceSub, Int.reduceNeg, Int.reduceBEq, Int.reduceBNe, Nat.reduceBEq, Int.cast_ofNat_Int, decide_true, decide_false, ne_eq, eq_self_iff_true, beq_eq_false_iff_ne, bne_iff_ne, List.replicate, *]))))
    all_goals (first | (simp_all; done) | (simp_all; omega))
  have hb : l.length ≤ 1000 := by omega
  iterate 30 (all_goals (try (first
    | ((with_reducible refine of_kSpec ?_); refine call_fz (spec8 l) rfl ?_)
    | ((with_reducible refine of_kSpec ?_); refine call_fz (spec9) rfl ?_)
    | ((with_reducible refine of_kSpec ?_); refine call_fz (spec10 l) rfl ?_)
    | ((with_reducible refine of_kSpec ?_); refine call_fz (spec11 l) rfl ?_)
    | (with_reducible refine ite_in (fun _ => ?_) (fun _ => ?_))
    | (with_reducible refine ⟨fun _ => ?_, fun _ => ?_⟩)
    | (with_reducible refine And.intro ?_ ?_)
    | (with_reducible intro _)
    | (with_reducible exact is_in _)
    | (simp -implicitDefEqProofs only [SD, SF, SL, e_nf, reduceCtorEq, implies_true, ↓reduceIte, Nat.reduceEqDiff, Nat.reduceAdd, Nat.reduceMul, Nat.reduceSub, Nat.reduceLeDiff, Nat.reduceLT, Int.reduceLT, Int.reduceLE, Int.reduceEq, Int.reduceToNat, Int.reduceAdd, Int.reduceSub, Int.reduceNeg, Int.reduceBEq, Int.reduceBNe, Nat.reduceBEq, Int.cast_ofNat_Int, decide_true, decide_false, ne_eq, eq_self_iff_true, beq_eq_false_iff_ne, bne_iff_ne, List.replicate, *]))))
  all_goals (first | (simp_all; done) | (simp_all; omega))

def ac4 : AC := (.seq (.ops [⟨(some 4), none, (.box (.t 1))⟩, ⟨(some 6), none, (.mv (.c (.bool false)))⟩]) (.seq (.seq (.ops [⟨(some 11), none, (.mv (.t 0))⟩, ⟨(some 12), none, (.call false 8 [(.t 11)])⟩]) (.cond (.t 12) (.seq (.ops [⟨(some 13), none, (.call false 9 [])⟩, ⟨(some 6), none, (.mv (.t 13))⟩]) .ret) .skip)) (.seq (.ops [⟨(some 15), none, (.mv (.t 0))⟩, ⟨(some 16), none, (.fld 0 (.t 4))⟩, ⟨(some 17), none, (.ld false 1 (.t 16))⟩, ⟨(some 18), none, (.fld 1 (.t 4))⟩, ⟨(some 19), none, (.ld false 1 (.t 18))⟩, ⟨(some 20), none, (.mv (.t 2))⟩, ⟨(some 21), none, (.call false 12 [(.t 15), (.t 17), (.t 19), (.t 20)])⟩, ⟨(some 14), none, (.mv (.t 21))⟩, ⟨(some 22), none, (.ext (.t 14) 0)⟩, ⟨(some 23), none, (.ext (.t 14) 1)⟩, ⟨(some 7), none, (.mv (.t 22))⟩, ⟨(some 8), none, (.mv (.t 23))⟩]) (.seq (.ops [⟨(some 25), none, (.mv (.t 0))⟩, ⟨(some 26), none, (.fld 0 (.t 4))⟩, ⟨(some 27), none, (.ld false 1 (.t 26))⟩, ⟨(some 28), none, (.fld 1 (.t 4))⟩, ⟨(some 29), none, (.ld false 1 (.t 28))⟩, ⟨(some 30), none, (.mv (.t 2))⟩, ⟨(some 31), none, (.call false 13 [(.t 25), (.t 27), (.t 29), (.t 30)])⟩, ⟨(some 24), none, (.mv (.t 31))⟩, ⟨(some 32), none, (.ext (.t 24) 0)⟩, ⟨(some 33), none, (.ext (.t 24) 1)⟩, ⟨(some 9), none, (.mv (.t 32))⟩, ⟨(some 10), none, (.mv (.t 33))⟩]) (.seq (.ops [⟨(some 34), none, (.mv (.t 7))⟩, ⟨(some 35), none, (.mv (.t 9))⟩, ⟨(some 36), none, (.call false 14 [(.t 34), (.t 35)])⟩, ⟨(some 37), none, (.mv (.t 36))⟩, ⟨(some 38), (some (37, true)), (.mv (.t 8))⟩, ⟨(some 39), (some (37, true)), (.mv (.t 10))⟩, ⟨(some 40), (some (37, true)), (.bin .eql (.t 38) (.t 39))⟩, ⟨(some 41), none, (.pick (.t 37) (.t 40) (.c (.bool false)))⟩, ⟨(some 42), none, (.mv (.t 41))⟩, ⟨(some 43), (some (42, true)), (.call false 9 [])⟩, ⟨(some 44), none, (.pick (.t 42) (.t 43) (.c (.bool false)))⟩, ⟨(some 6), none, (.mv (.t 44))⟩]) .ret)))))
theorem tr4 : Try.f4.body.bind (trCode Try.prog) = some (strip ac4) := by kernel_rfl
theorem spec4 (l : List OT) (u v : List UInt8) (q : Int) : Spec Try.prog 4 [.fz (.sl 4 (l.map encOT)), .fz (.agg [.str u, .str v]), .fz (.int .i64 q)] (.fz (.bool true)) := by
  refine spec_at (n := 42) (ars := [(.t 6)]) (ac := ac4) Try.func4 (by kernel_rfl) (by kernel_rfl) tr4 (by kernel_rfl) ?_
  unfold ac4
  by_cases hg : 50 < l.length
  · skip
    iterate 30 (all_goals (try (first
      | ((with_reducible refine of_kSpec ?_); refine call_fz (spec8 l) rfl ?_)
      | ((with_reducible refine of_kSpec ?_); refine call_fz (spec9) rfl ?_)
      | (with_reducible refine ite_in (fun _ => ?_) (fun _ => ?_))
      | (with_reducible refine ⟨fun _ => ?_, fun _ => ?_⟩)
      | (with_reducible refine And.intro ?_ ?_)
      | (with_reducible intro _)
      | (with_reducible exact is_in _)
      | (simp -implicitDefEqProofs only [SD, SF, SL, e_nf, reduceCtorEq, implies_true, ↓reduceIte, Nat.reduceEqDiff, Nat.reduceAdd, Nat.reduceMul, Nat.reduceSub, Nat.reduceLeDiff, Nat.reduceLT, Int.reduceLT, Int.reduceLE, Int.reduceEq, Int.reduceToNat, Int.reduceAdd, Int.reduceSub, Int.reduceNeg, Int.reduceBEq, Int.reduceBNe, Nat.reduceBEq, Int.cast_ofNat_Int, decide_true, decide_false, ne_eq, eq_self_iff_true, beq_eq_false_iff_ne, bne_iff_ne, List.replicate, *]))))
    all_goals (first | (simp_all; done) | (simp_all; omega))
  have hb : l.length ≤ 1000 := by omega
  iterate 30 (all_goals (try (first
    | ((with_reducible refine of_kSpec ?_); refine call_fz (spec8 l) rfl ?_)
    | ((with_reducible refine of_kSpec ?_); refine call_fz (spec9) rfl ?_)
    | ((with_reducible refine of_kSpec ?_); refine call_fz (spec12 l u v q hb) rfl ?_)
    | ((with_reducible refine of_kSpec ?_); refine call_fz (spec13 l u v q hb) rfl ?_)
    | ((with_reducible refine of_kSpec ?_); refine call_fz (spec14 _ _) rfl ?_)
    | (with_reducible refine ite_in (fun _ => ?_) (fun _ => ?_))
    | (with_reducible refine ⟨fun _ => ?_, fun _ => ?_⟩)
    | (with_reducible refine And.intro ?_ ?_)
    | (with_reducible intro _)
    | (with_reducible exact is_in _)
    | (simp -implicitDefEqProofs only [SD, SF, SL, e_nf, reduceCtorEq, implies_true, ↓reduceIte, Nat.reduceEqDiff, Nat.reduceAdd, Nat.reduceMul, Nat.reduceSub, Nat.reduceLeDiff, Nat.reduceLT, Int.reduceLT, Int.reduceLE, Int.reduceEq, Int.reduceToNat, Int.reduceAdd, Int.reduceSub, Int.reduceNeg, Int.reduceBEq, Int.reduceBNe, Nat.reduceBEq, Int.cast_ofNat_Int, decide_true, decide_false, ne_eq, eq_self_iff_true, beq_eq_false_iff_ne, bne_iff_ne, List.replicate, *]))))
  all_goals (first | (simp_all; done) | (simp_all; omega))

def ac5 : AC := (.seq (.ops [⟨(some 3), none, (.box (.t 1))⟩, ⟨(some 4), none, (.mv (.c (.bool false)))⟩]) (.seq (.seq (.ops [⟨(some 11), none, (.mv (.t 0))⟩, ⟨(some 12), none, (.call false 8 [(.t 11)])⟩]) (.cond (.t 12) (.seq (.ops [⟨(some 13), none, (.call false 9 [])⟩, ⟨(some 4), none, (.mv (.t 13))⟩]) .ret) .skip)) (.seq (.ops [⟨(some 15), none, (.mv (.t 0))⟩, ⟨(some 16), none, (.fld 0 (.t 3))⟩, ⟨(some 17), none, (.ld false 1 (.t 16))⟩, ⟨(some 18), none, (.fld 1 (.t 3))⟩, ⟨(some 19), none, (.ld false 1 (.t 18))⟩, ⟨(some 20), none, (.call false 15 [(.t 15), (.t 17), (.t 19)])⟩, ⟨(some 14), none, (.mv (.t 20))⟩, ⟨(some 21), none, (.ext (.t 14) 0)⟩, ⟨(some 22), none, (.ext (.t 14) 1)⟩, ⟨(some 23), none, (.ext (.t 14) 2)⟩, ⟨(some 5), none, (.mv (.t 21))⟩, ⟨(some 6), none, (.mv (.t 22))⟩, ⟨(some 7), none, (.mv (.t 23))⟩]) (.seq (.ops [⟨(some 25), none, (.mv (.t 0))⟩, ⟨(some 26), none, (.fld 0 (.t 3))⟩, ⟨(some 27), none, (.ld false 1 (.t 26))⟩, ⟨(some 28), none, (.fld 1 (.t 3))⟩, ⟨(some 29), none, (.ld false 1 (.t 28))⟩, ⟨(some 30), none, (.call false 16 [(.t 25), (.t 27), (.t 29)])⟩, ⟨(some 24), none, (.mv (.t 30))⟩, ⟨(some 31), none, (.ext (.t 24) 0)⟩, ⟨(some 32), none, (.ext (.t 24) 1)⟩, ⟨(some 33), none, (.ext (.t 24) 2)⟩, ⟨(some 8), none, (.mv (.t 31))⟩, ⟨(some 9), none, (.mv (.t 32))⟩, ⟨(some 10), none, (.mv (.t 33))⟩]) (.seq (.ops [⟨(some 34), none, (.mv (.t 5))⟩, ⟨(some 35), none, (.mv (.t 8))⟩, ⟨(some 36), none, (.call false 14 [(.t 34), (.t 35)])⟩, ⟨(some 37), none, (.mv (.t 36))⟩, ⟨(some 38), (some (37, true)), (.mv (.t 6))⟩, ⟨(some 39), (some (37, true)), (.mv (.t 9))⟩, ⟨(some 40), (some (37, true)), (.bin .eql (.t 38) (.t 39))⟩, ⟨(some 41), none, (.pick (.t 37) (.t 40) (.c (.bool false)))⟩, ⟨(some 42), none, (.mv (.t 41))⟩, ⟨(some 43), (some (42, true)), (.mv (.t 7))⟩, ⟨(some 44), (some (42, true)), (.mv (.t 10))⟩, ⟨(some 45), (some (42, true)), (.bin .eql (.t 43) (.t 44))⟩, ⟨(some 46), none, (.pick (.t 42) (.t 45) (.c (.bool false)))⟩, ⟨(some 47), none, (.mv (.t 46))⟩, ⟨(some 48), (some (47, true)), (.call false 9 [])⟩, ⟨(some 49), none, (.pick (.t 47) (.t 48) (.c (.bool false)))⟩, ⟨(some 4), none, (.mv (.t 49))⟩]) .ret)))))
theorem tr5 : Try.f5.body.bind (trCode Try.prog) = some (strip ac5) := by kernel_rfl
theorem spec5 (l : List OT) (u v : List UInt8) : Spec Try.prog 5 [.fz (.sl 4 (l.map encOT)), .fz (.agg [.str u, .str v])] (.fz (.bool true)) := by
  refine spec_at (n := 48) (ars := [(.t 4)]) (ac := ac5) Try.func5 (by kernel_rfl) (by kernel_rfl) tr5 (by kernel_rfl) ?_
  unfold ac5
  by_cases hg : 50 < l.length
  · skip
    iterate 30 (all_goals (try (first
      | ((with_reducible refine of_kSpec ?_); refine call_fz (spec8 l) rfl ?_)
      | ((with_reducible refine of_kSpec ?_); refine call_fz (spec9) rfl ?_)
      | (with_reducible refine ite_in (fun _ => ?_) (fun _ => ?_))
      | (with_reducible refine ⟨fun _ => ?_, fun _ => ?_⟩)
      | (with_reducible refine And.intro ?_ ?_)
      | (with_reducible intro _)
      | (with_reducible exact is_in _)
      | (simp -implicitDefEqProofs only [SD, SF, SL, e_nf, reduceCtorEq, implies_true, ↓reduceIte, Nat.reduceEqDiff, Nat.reduceAdd, Nat.reduceMul, Nat.reduceSub, Nat.reduceLeDiff, Nat.reduceLT, Int.reduceLT, Int.reduceLE, Int.reduceEq, Int.reduceToNat, Int.reduceAdd, Int.reduceSub, Int.reduceNeg, Int.reduceBEq, Int.reduceBNe, Nat.reduceBEq, Int.cast_ofNat_Int, decide_true, decide_false, ne_eq, eq_self_iff_true, beq_eq_false_iff_ne, bne_iff_ne, List.replicate, *]))))
    all_goals (first | (simp_all; done) | (simp_all; omega))
  have hb : l.length ≤ 1000 := by omega
  iterate 30 (all_goals (try (first
    | ((with_reducible refine of_kSpec ?_); refine call_fz (spec8 l) rfl ?_)
    | ((with_reducible refine of_kSpec ?_); refine call_fz (spec9) rfl ?_)
    | ((with_reducible refine of_kSpec ?_); refine call_fz (spec15 l u v hb) rfl ?_)
    | ((with_reducible refine of_kSpec ?_); refine call_fz (spec16 l u v hb) rfl ?_)
    | ((with_reducible refine of_kSpec ?_); refine call_fz (spec14 _ _) rfl ?_)
    | (with_reducible refine ite_in (fun _ => ?_) (fun _ => ?_))
    | (with_reducible refine ⟨fun _ => ?_, fun _ => ?_⟩)
    | (with_reducible refine And.intro ?_ ?_)
    | (with_reducible intro _)
    | (with_reducible exact is_in _)
    | (simp -implicitDefEqProofs only [SD, SF, SL, e_nf, reduceCtorEq, implies_true, ↓reduceIte, Nat.reduceEqDiff, Nat.reduceAdd, Nat.reduceMul, Nat.reduceSub, Nat.reduceLeDiff, Nat.reduceLT, Int.reduceLT, Int.reduceLE, Int.reduceEq, Int.reduceToNat, Int.reduceAdd, Int.reduceSub, Int.reduceNeg, Int.reduceBEq, Int.reduceBNe, Nat.reduceBEq, Int.cast_ofNat_Int, decide_true, decide_false, ne_eq, eq_self_iff_true, beq_eq_false_iff_ne, bne_iff_ne, List.replicate, *]))))
  all_goals (first | (simp_all; done) | (simp_all; omega))

def ac6 : AC := (.seq (.ops [⟨(some 4), none, (.box (.t 1))⟩, ⟨(some 6), none, (.mv (.c (.bool false)))⟩]) (.seq (.seq (.ops [⟨(some 7), none, (.mv (.t 0))⟩, ⟨(some 8), none, (.call false 8 [(.t 7)])⟩]) (.cond (.t 8) (.seq (.ops [⟨(some 9), none, (.call false 9 [])⟩, ⟨(some 6), none, (.mv (.t 9))⟩]) .ret) .skip)) (.seq (.draw (.q false ⟨(some 10), none, (.mv (.t 0))⟩ (.q false ⟨(some 11), none, (.fld 0 (.t 4))⟩ (.q false ⟨(some 12), none, (.ld false 1 (.t 11))⟩ (.q false ⟨(some 13), none, (.fld 1 (.t 4))⟩ (.q false ⟨(some 14), none, (.ld false 1 (.t 13))⟩ (.q false ⟨(some 16), none, (.mv (.t 0))⟩ (.q false ⟨(some 17), none, (.fld 0 (.t 4))⟩ (.q false ⟨(some 18), none, (.ld false 1 (.t 17))⟩ (.q false ⟨(some 19), none, (.fld 1 (.t 4))⟩ (.q false ⟨(some 20), none, (.ld false 1 (.t 19))⟩ (.op ⟨(some 15), none, (.call false 17 [(.t 10), (.t 12), (.t 14)])⟩ (.op ⟨(some 21), none, (.call false 18 [(.t 16), (.t 18), (.t 20)])⟩ (.q false ⟨(some 22), none, (.bin .eql (.t 15) (.t 21))⟩ (.q false ⟨(some 23), none, (.mv (.t 22))⟩ (.q false ⟨(some 24), (some (23, true)), (.mv (.t 0))⟩ (.q false ⟨(some 25), (some (23, true)), (.mv (.t 2))⟩ (.q false ⟨(some 27), (some (23, true)), (.mv (.t 0))⟩ (.q false ⟨(some 28), (some (23, true)), (.mv (.t 2))⟩ (.op ⟨(some 26), (some (23, true)), (.call false 19 [(.t 24), (.t 25)])⟩ (.op ⟨(some 29), (some (23, true)), (.call false 20 [(.t 27), (.t 28)])⟩ (.op ⟨(some 30), (some (23, true)), (.call false 14 [(.t 26), (.t 29)])⟩ (.q false ⟨(some 31), none, (.pick (.t 23) (.t 30) (.c (.bool false)))⟩ (.q false ⟨(some 32), none, (.mv (.t 31))⟩ (.op ⟨(some 33), (some (32, true)), (.call false 9 [])⟩ (.q false ⟨(some 34), none, (.pick (.t 32) (.t 33) (.c (.bool false)))⟩ (.q false ⟨(some 6), none, (.mv (.t 34))⟩ .nil))))))))))))))))))))))))))) .ret)))
theorem tr6 : Try.f6.body.bind (trCode Try.prog) = some (strip ac6) := by kernel_rfl
theorem spec6 (l : List OT) (u v : List UInt8) (q : Int) : Spec Try.prog 6 [.fz (.sl 4 (l.map encOT)), .fz (.agg [.str u, .str v]), .fz (.int .i64 q)] (.fz (.bool true)) := by
  refine spec_at (n := 32) (ars := [(.t 6)]) (ac := ac6) Try.func6 (by kernel_rfl) (by kernel_rfl) tr6 (by kernel_rfl) ?_
  unfold ac6
  by_cases hg : 50 < l.length
  · skip
    iterate 30 (all_goals (try (first
      | ((with_reducible refine of_kSpec ?_); refine call_fz (spec8 l) rfl ?_)
      | ((with_reducible refine of_kSpec ?_); refine call_fz (spec9) rfl ?_)
      | (with_reducible refine ite_in (fun _ => ?_) (fun _ => ?_))
      | (with_reducible refine ⟨fun _ => ?_, fun _ => ?_⟩)
      | (with_reducible refine And.intro ?_ ?_)
      | (with_reducible intro _)
      | (with_reducible exact is_in _)
      | (simp -implicitDefEqProofs only [SD, SF, SL, e_nf, reduceCtorEq, implies_true, ↓reduceIte, Nat.reduceEqDiff, Nat.reduceAdd, Nat.reduceMul, Nat.reduceSub, Nat.reduceLeDiff, Nat.reduceLT, Int.reduceLT, Int.reduceLE, Int.reduceEq, Int.reduceToNat, Int.reduceAdd, Int.reduceSub, Int.reduceNeg, Int.reduceBEq, Int.reduceBNe, Nat.reduceBEq, Int.cast_ofNat_Int, decide_true, decide_false, ne_eq, eq_self_iff_true, beq_eq_false_iff_ne, bne_iff_ne, List.replicate, *]))))
    all_goals (first | (simp_all; done) | (simp_all; omega))
  have hb : l.length ≤ 1000 := by omega
  iterate 30 (all_goals (try (first
    | ((with_reducible refine of_kSpec ?_); refine call_fz (spec8 l) rfl ?_)
    | ((with_reducible refine of_kSpec ?_); refine call_fz (spec9) rfl ?_)
    | ((with_reducible refine of_kSpec ?_); refine call_fz (spec17 l u v hb) rfl ?_)
    | ((with_reducible refine of_kSpec ?_); refine call_fz (spec18 l u v) rfl ?_)
    | ((with_reducible refine of_kSpec ?_); refine call_fz (spec19 l q hb) rfl ?_)
    | ((with_reducible refine of_kSpec ?_); refine call_fz (spec20 l q hb) rfl ?_)
    | ((with_reducible refine of_kSpec ?_); refine call_fz (spec14 _ _) rfl ?_)
    | (with_reducible refine ite_in (fun _ => ?_) (fun _ => ?_))
    | (with_reducible refine ⟨fun _ => ?_, fun _ => ?_⟩)
    | (with_reducible refine And.intro ?_ ?_)
    | (with_reducible intro _)
    | (with_reducible exact is_in _)
    | (simp -implicitDefEqProofs only [SD, SF, SL, e_nf, reduceCtorEq, implies_true, ↓reduceIte, Nat.reduceEqDiff, Nat.reduceAdd, Nat.reduceMul, Nat.reduceSub, Nat.reduceLeDiff, Nat.reduceLT, Int.reduceLT, Int.reduceLE, Int.reduceEq, Int.reduceToNat, Int.reduceAdd, Int.reduceSub, Int.reduceNeg, Int.reduceBEq, Int.reduceBNe, Nat.reduceBEq, Int.cast_ofNat_Int, decide_true, decide_false, ne_eq, eq_self_iff_true, beq_eq_false_iff_ne, bne_iff_ne, List.replicate, *]))))
  all_goals (first | (simp_all; done) | (simp_all; omega))


end Go.Proofs.Ytcjlkbffmggekaa.E
