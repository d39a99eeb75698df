/-
  MdN: walks of functions of the program at data level.
-/
import Derived.Test.YtfcjmblhcakhaaaProg
import Derived.Test.YtfcjmblhcakhaaaEngZ
import Derived.Test.YtfcjmblhcakhaaaMdM
import Derived.KernelRfl
set_option linter.unusedVariables false
set_option linter.unusedSimpArgs false
namespace Go.Proofs.Ytfcjmblhcakhaaa.E
open Go
set_option maxHeartbeats 4000000
set_option maxRecDepth 100000
set_option linter.unusedSimpArgs false
set_option linter.unusedVariables false
attribute [local congr] c_wp c_ops c_op c_opS c_run c_runS c_dt c_seq c_blk c_loop c_S c_put c_bind c_mv c_pick c_nt c_ng c_bin c_binI c_binS c_beq c_B c_eqa c_hd c_cells c_blkK c_box c_vec c_mp c_mkm c_mput c_mlk c_mrm c_take c_ld c_ldF c_cellsK c_st c_fld c_fldv c_ix c_ixp c_ixv c_ixs c_sub c_subs c_len c_lens c_src c_dst c_ow c_app c_ext c_mm c_conv c_str c_isn c_fill c_rows c_boxo c_frz c_frzO c_frzA c_frzV c_spec c_specO c_opsP c_opP c_runP c_specP c_Z c_qretP c_fz c_fn c_gv c_cond c_res1 c_resL c_ret c_qret c_ite c_unr c_nx c_bk c_cut c_is
attribute [local irreducible] dwp

structure Ask where
  own : List UInt8
  server : List UInt8
  name : List UInt8
  size : Int
  now : Int
def encAsk (a : Ask) : List DV := [.str a.own, .str a.server, .str a.name, .int .i64 a.size, .int .i64 a.now]
def ac3 : AC := (.seq (.ops [⟨(some 6), none, (.mv (.c (.bool false)))⟩]) (.seq (.seq (.ops [⟨(some 11), none, (.mv (.t 0))⟩, ⟨(some 12), none, (.call false 9 [(.t 11)])⟩]) (.cond (.t 12) (.seq (.ops [⟨(some 13), none, (.call false 10 [])⟩, ⟨(some 6), none, (.mv (.t 13))⟩]) .ret) .skip)) (.seq (.ops [⟨(some 15), none, (.mv (.t 0))⟩, ⟨(some 16), none, (.mv (.t 1))⟩, ⟨(some 17), none, (.mv (.t 2))⟩, ⟨(some 18), none, (.call false 11 [(.t 15), (.t 16), (.t 17)])⟩, ⟨(some 14), none, (.mv (.t 18))⟩, ⟨(some 19), none, (.ext (.t 14) 0)⟩, ⟨(some 20), none, (.ext (.t 14) 1)⟩, ⟨(some 7), none, (.alloc [(.str []), (.str []), (.int .i64 0), (.int .i64 0), (.int .i64 0)])⟩, ⟨none, none, (.sto 5 (.t 7) (.t 19))⟩, ⟨(some 8), none, (.mv (.t 20))⟩]) (.seq (.ops [⟨(some 22), none, (.mv (.t 0))⟩, ⟨(some 23), none, (.mv (.t 1))⟩, ⟨(some 24), none, (.mv (.t 2))⟩, ⟨(some 25), none, (.call false 12 [(.t 22), (.t 23), (.t 24)])⟩, ⟨(some 21), none, (.mv (.t 25))⟩, ⟨(some 26), none, (.ext (.t 21) 0)⟩, ⟨(some 27), none, (.ext (.t 21) 1)⟩, ⟨(some 9), none, (.alloc [(.str []), (.str []), (.int .i64 0), (.int .i64 0), (.int .i64 0)])⟩, ⟨none, none, (.sto 5 (.t 9) (.t 26))⟩, ⟨(some 10), none, (.mv (.t 27))⟩]) (.seq (.ops [⟨(some 28), none, (.mv (.t 0))⟩, ⟨(some 29), none, (.call false 13 [(.t 28)])⟩, ⟨(some 30), none, (.mv (.t 0))⟩, ⟨(some 31), none, (.call false 14 [(.t 30)])⟩, ⟨(some 32), none, (.bin .eql (.t 29) (.t 31))⟩, ⟨(some 33), none, (.mv (.t 32))⟩, ⟨(some 34), (some (33, true)), (.mv (.t 0))⟩, ⟨(some 35), (some (33, true)), (.call false 15 [(.t 34)])⟩, ⟨(some 36), (some (33, true)), (.mv (.t 0))⟩, ⟨(some 37), (some (33, true)), (.call false 16 [(.t 36)])⟩, ⟨(some 38), (some (33, true)), (.bin .eql (.t 35) (.t 37))⟩, ⟨(some 39), none, (.pick (.t 33) (.t 38) (.c (.bool false)))⟩, ⟨(some 40), none, (.mv (.t 39))⟩, ⟨(some 41), (some (40, true)), (.ld true 5 (.t 7))⟩, ⟨(some 42), (some (40, true)), (.ld true 5 (.t 9))⟩, ⟨(some 43), (some (40, true)), (.call false 17 [(.t 41), (.t 42)])⟩, ⟨(some 44), none, (.pick (.t 40) (.t 43) (.c (.bool false)))⟩, ⟨(some 45), none, (.mv (.t 44))⟩, ⟨(some 46), (some (45, true)), (.mv (.t 8))⟩, ⟨(some 47), (some (45, true)), (.mv (.t 10))⟩, ⟨(some 48), (some (45, true)), (.beq false (.t 46) (.t 47))⟩, ⟨(some 49), none, (.pick (.t 45) (.t 48) (.c (.bool false)))⟩, ⟨(some 50), none, (.mv (.t 49))⟩, ⟨(some 51), (some (50, true)), (.call false 10 [])⟩, ⟨(some 52), none, (.pick (.t 50) (.t 51) (.c (.bool false)))⟩, ⟨(some 6), none, (.mv (.t 52))⟩]) .ret)))))
theorem tr3 : Try.f3.body.bind (trCode Try.prog) = some (strip ac3) := by kernel_rfl
theorem spec3 (l : List Md) (u v : List UInt8) : Spec Try.prog 3 [.fz (.sl 5 (l.map encMd)), .fz (.str u), .fz (.str v)] (.fz (.bool true)) := by
  refine spec_at (n := 50) (ars := [(.t 6)]) (ac := ac3) Try.func3 (by kernel_rfl) (by kernel_rfl) tr3 (by kernel_rfl) ?_
  unfold ac3
  by_cases hg : 50 < l.length
  · skip
    iterate 20 (all_goals (try (first
      | ((with_reducible refine of_kSpec ?_); refine call_fz (spec9 l) rfl ?_)
      | ((with_reducible refine of_kSpec ?_); refine call_fz (spec10) rfl ?_)
      | (with_reducible refine ite_in (fun _ => ?_) (fun _ => ?_))
      | (with_reducible refine ⟨fun _ => ?_, fun _ => ?_⟩)
      | (with_reducible refine And.intro ?_ ?_)
      | (with_reducible intro _)
      | (with_reducible exact is_in _)
      | (simp -implicitDefEqProofs only [SD, SF, SL, e_nf, reduceCtorEq, implies_true, ↓reduceIte, Nat.reduceEqDiff, Nat.reduceAdd, Nat.reduceMul, Nat.reduceSub, Nat.reduceLeDiff, Nat.reduceLT, Int.reduceLT, Int.reduceLE, Int.reduceEq, Int.reduceToNat, Int.reduceAdd, Int.reduceSub, Int.reduceNeg, Int.reduceBEq, Int.reduceBNe, Nat.reduceBEq, Int.cast_ofNat_Int, decide_true, decide_false, ne_eq, eq_self_iff_true, beq_eq_false_iff_ne, bne_iff_ne, List.replicate, encMd, *]))))
    all_goals (simp_all)
  have hb : l.length ≤ 1000 := by omega
  iterate 60 (all_goals (try (first
    | ((with_reducible refine of_kSpec ?_); refine call_fz (spec9 l) rfl ?_)
    | ((with_reducible refine of_kSpec ?_); refine call_fz (spec10) rfl ?_)
    | ((with_reducible refine of_kSpec ?_); refine call_fz (spec11 l u v) rfl ?_)
    | ((with_reducible refine of_kSpec ?_); refine call_fz (spec12 l u v) rfl ?_)
    | ((with_reducible refine of_kSpec ?_); refine call_fz (spec13 l) rfl ?_)
    | ((with_reducible refine of_kSpec ?_); refine call_fz (spec14 l) rfl ?_)
    | ((with_reducible refine of_kSpec ?_); refine call_fz (spec15 l) rfl ?_)
    | ((with_reducible refine of_kSpec ?_); refine call_fz (spec16 l) rfl ?_)
    | ((with_reducible refine of_kSpec ?_)
       refine call_sub (ds' := [.agg (encMd (getR l u v).1), .agg (encMd (getR l u v).1)]) (spec17 (getR l u v).1 (getR l u v).1) rfl ?_ ?_
       · simp -implicitDefEqProofs only [SD, SF, SL, e_nf, reduceCtorEq, implies_true, ↓reduceIte, Nat.reduceEqDiff, Nat.reduceAdd, Nat.reduceMul, Nat.reduceSub, Nat.reduceLeDiff, Nat.reduceLT, Int.reduceLT, Int.reduceLE, Int.reduceEq, Int.reduceToNat, Int.reduceAdd, Int.reduceSub, Int.reduceNeg, Int.reduceBEq, Int.reduceBNe, Nat.reduceBEq, Int.cast_ofNat_Int, decide_true, decide_false, ne_eq, eq_self_iff_true, beq_eq_false_iff_ne, bne_iff_ne, List.replicate, encMd, *]
         done)
    | (with_reducible refine ite_in (fun _ => ?_) (fun _ => ?_))
    | (with_reducible refine ⟨fun _ => ?_, fun _ => ?_⟩)
    | (with_reducible refine And.intro ?_ ?_)
    | (with_reducible intro _)
    | (with_reducible exact is_in _)
    | (simp -implicitDefEqProofs only [SD, SF, SL, e_nf, reduceCtorEq, implies_true, ↓reduceIte, Nat.reduceEqDiff, Nat.reduceAdd, Nat.reduceMul, Nat.reduceSub, Nat.reduceLeDiff, Nat.reduceLT, Int.reduceLT, Int.reduceLE, Int.reduceEq, Int.reduceToNat, Int.reduceAdd, Int.reduceSub, Int.reduceNeg, Int.reduceBEq, Int.reduceBNe, Nat.reduceBEq, Int.cast_ofNat_Int, decide_true, decide_false, ne_eq, eq_self_iff_true, beq_eq_false_iff_ne, bne_iff_ne, List.replicate, encMd, *]))))
  all_goals (simp_all)
def ac4 : AC := (.seq (.ops [⟨(some 3), none, (.box (.t 1))⟩, ⟨(some 4), none, (.mv (.c (.bool false)))⟩]) (.seq (.seq (.ops [⟨(some 9), none, (.mv (.t 0))⟩, ⟨(some 10), none, (.call false 9 [(.t 9)])⟩]) (.cond (.t 10) (.seq (.ops [⟨(some 11), none, (.call false 10 [])⟩, ⟨(some 4), none, (.mv (.t 11))⟩]) .ret) .skip)) (.seq (.ops [⟨(some 13), none, (.mv (.t 0))⟩, ⟨(some 14), none, (.ld true 5 (.t 3))⟩, ⟨(some 15), none, (.call false 18 [(.t 13), (.t 14)])⟩, ⟨(some 12), none, (.mv (.t 15))⟩, ⟨(some 16), none, (.ext (.t 12) 0)⟩, ⟨(some 17), none, (.ext (.t 12) 1)⟩, ⟨(some 5), none, (.mv (.t 16))⟩, ⟨(some 6), none, (.mv (.t 17))⟩]) (.seq (.ops [⟨(some 19), none, (.mv (.t 0))⟩, ⟨(some 20), none, (.ld true 5 (.t 3))⟩, ⟨(some 21), none, (.call false 19 [(.t 19), (.t 20)])⟩, ⟨(some 18), none, (.mv (.t 21))⟩, ⟨(some 22), none, (.ext (.t 18) 0)⟩, ⟨(some 23), none, (.ext (.t 18) 1)⟩, ⟨(some 7), none, (.mv (.t 22))⟩, ⟨(some 8), none, (.mv (.t 23))⟩]) (.seq (.draw (.q false ⟨(some 24), none, (.mv (.t 5))⟩ (.q false ⟨(some 25), none, (.mv (.t 7))⟩ (.op ⟨(some 26), none, (.call false 20 [(.t 24), (.t 25)])⟩ (.q false ⟨(some 27), none, (.mv (.t 26))⟩ (.q false ⟨(some 28), (some (27, true)), (.mv (.t 6))⟩ (.q false ⟨(some 29), (some (27, true)), (.mv (.t 8))⟩ (.q false ⟨(some 30), (some (27, true)), (.bin .eql (.t 28) (.t 29))⟩ (.q false ⟨(some 31), none, (.pick (.t 27) (.t 30) (.c (.bool false)))⟩ (.q false ⟨(some 32), none, (.mv (.t 31))⟩ (.q false ⟨(some 33), (some (32, true)), (.mv (.t 0))⟩ (.q false ⟨(some 34), (some (32, true)), (.fld 0 (.t 3))⟩ (.q false ⟨(some 35), (some (32, true)), (.ld false 1 (.t 34))⟩ (.q false ⟨(some 36), (some (32, true)), (.fld 1 (.t 3))⟩ (.q false ⟨(some 37), (some (32, true)), (.ld false 1 (.t 36))⟩ (.q false ⟨(some 39), (some (32, true)), (.mv (.t 0))⟩ (.q false ⟨(some 40), (some (32, true)), (.fld 0 (.t 3))⟩ (.q false ⟨(some 41), (some (32, true)), (.ld false 1 (.t 40))⟩ (.q false ⟨(some 42), (some (32, true)), (.fld 1 (.t 3))⟩ (.q false ⟨(some 43), (some (32, true)), (.ld false 1 (.t 42))⟩ (.op ⟨(some 38), (some (32, true)), (.call false 21 [(.t 33), (.t 35), (.t 37)])⟩ (.op ⟨(some 44), (some (32, true)), (.call false 22 [(.t 39), (.t 41), (.t 43)])⟩ (.op ⟨(some 45), (some (32, true)), (.call false 20 [(.t 38), (.t 44)])⟩ (.q false ⟨(some 46), none, (.pick (.t 32) (.t 45) (.c (.bool false)))⟩ (.q false ⟨(some 47), none, (.mv (.t 46))⟩ (.op ⟨(some 48), (some (47, true)), (.call false 10 [])⟩ (.q false ⟨(some 49), none, (.pick (.t 47) (.t 48) (.c (.bool false)))⟩ (.q false ⟨(some 4), none, (.mv (.t 49))⟩ .nil)))))))))))))))))))))))))))) .ret)))))
theorem tr4 : Try.f4.body.bind (trCode Try.prog) = some (strip ac4) := by kernel_rfl
theorem spec4 (l : List Md) (m : Md) : Spec Try.prog 4 [.fz (.sl 5 (l.map encMd)), .fz (.agg (encMd m))] (.fz (.bool true)) := by
  refine spec_at (n := 48) (ars := [(.t 4)]) (ac := ac4) Try.func4 (by kernel_rfl) (by kernel_rfl) tr4 (by kernel_rfl) ?_
  unfold ac4
  by_cases hg : 50 < l.length
  · skip
    iterate 20 (all_goals (try (first
      | ((with_reducible refine of_kSpec ?_); refine call_fz (spec9 l) rfl ?_)
      | ((with_reducible refine of_kSpec ?_); refine call_fz (spec10) rfl ?_)
      | (with_reducible refine ite_in (fun _ => ?_) (fun _ => ?_))
      | (with_reducible refine ⟨fun _ => ?_, fun _ => ?_⟩)
      | (with_reducible refine And.intro ?_ ?_)
      | (with_reducible intro _)
      | (with_reducible exact is_in _)
      | (simp -implicitDefEqProofs only [SD, SF, SL, e_nf, reduceCtorEq, implies_true, ↓reduceIte, Nat.reduceEqDiff, Nat.reduceAdd, Nat.reduceMul, Nat.reduceSub, Nat.reduceLeDiff, Nat.reduceLT, Int.reduceLT, Int.reduceLE, Int.reduceEq, Int.reduceToNat, Int.reduceAdd, Int.reduceSub, Int.reduceNeg, Int.reduceBEq, Int.reduceBNe, Nat.reduceBEq, Int.cast_ofNat_Int, decide_true, decide_false, ne_eq, eq_self_iff_true, beq_eq_false_iff_ne, bne_iff_ne, List.replicate, encMd, *]))))
    all_goals (simp_all)
  have hb : l.length ≤ 1000 := by omega
  iterate 90 (all_goals (try (first
    | ((with_reducible refine of_kSpec ?_); refine call_fz (spec9 l) rfl ?_)
    | ((with_reducible refine of_kSpec ?_); refine call_fz (spec10) rfl ?_)
    | ((with_reducible refine of_kSpec ?_)
       refine call_sub (ds' := [.sl 5 (l.map encMd), .agg (encMd m)]) (spec18 l m hb) rfl ?_ ?_
       · simp -implicitDefEqProofs only [SD, SF, SL, e_nf, reduceCtorEq, implies_true, ↓reduceIte, Nat.reduceEqDiff, Nat.reduceAdd, Nat.reduceMul, Nat.reduceSub, Nat.reduceLeDiff, Nat.reduceLT, Int.reduceLT, Int.reduceLE, Int.reduceEq, Int.reduceToNat, Int.reduceAdd, Int.reduceSub, Int.reduceNeg, Int.reduceBEq, Int.reduceBNe, Nat.reduceBEq, Int.cast_ofNat_Int, decide_true, decide_false, ne_eq, eq_self_iff_true, beq_eq_false_iff_ne, bne_iff_ne, List.replicate, encMd, *]
         done)
    | ((with_reducible refine of_kSpec ?_)
       refine call_sub (ds' := [.sl 5 (l.map encMd), .agg (encMd m)]) (spec19 l m hb) rfl ?_ ?_
       · simp -implicitDefEqProofs only [SD, SF, SL, e_nf, reduceCtorEq, implies_true, ↓reduceIte, Nat.reduceEqDiff, Nat.reduceAdd, Nat.reduceMul, Nat.reduceSub, Nat.reduceLeDiff, Nat.reduceLT, Int.reduceLT, Int.reduceLE, Int.reduceEq, Int.reduceToNat, Int.reduceAdd, Int.reduceSub, Int.reduceNeg, Int.reduceBEq, Int.reduceBNe, Nat.reduceBEq, Int.cast_ofNat_Int, decide_true, decide_false, ne_eq, eq_self_iff_true, beq_eq_false_iff_ne, bne_iff_ne, List.replicate, encMd, *]
         done)
    | ((with_reducible refine of_kSpec ?_); refine call_fz (spec20 _ _) rfl ?_)
    | ((with_reducible refine of_kSpec ?_); refine call_fz (spec21 l m.server m.name hb) rfl ?_)
    | ((with_reducible refine of_kSpec ?_); refine call_fz (spec22 l m.server m.name hb) rfl ?_)
    | (with_reducible refine ite_in (fun _ => ?_) (fun _ => ?_))
    | (with_reducible refine ⟨fun _ => ?_, fun _ => ?_⟩)
    | (with_reducible refine And.intro ?_ ?_)
    | (with_reducible intro _)
    | (with_reducible exact is_in _)
    | (simp -implicitDefEqProofs only [SD, SF, SL, e_nf, reduceCtorEq, implies_true, ↓reduceIte, Nat.reduceEqDiff, Nat.reduceAdd, Nat.reduceMul, Nat.reduceSub, Nat.reduceLeDiff, Nat.reduceLT, Int.reduceLT, Int.reduceLE, Int.reduceEq, Int.reduceToNat, Int.reduceAdd, Int.reduceSub, Int.reduceNeg, Int.reduceBEq, Int.reduceBNe, Nat.reduceBEq, Int.cast_ofNat_Int, decide_true, decide_false, ne_eq, eq_self_iff_true, beq_eq_false_iff_ne, bne_iff_ne, List.replicate, encMd, *]))))
  all_goals (simp_all)
def ac5 : AC := (.seq (.ops [⟨(some 3), none, (.box (.t 1))⟩, ⟨(some 4), none, (.mv (.c (.bool false)))⟩]) (.seq (.seq (.ops [⟨(some 9), none, (.mv (.t 0))⟩, ⟨(some 10), none, (.call false 9 [(.t 9)])⟩]) (.cond (.t 10) (.seq (.ops [⟨(some 11), none, (.call false 10 [])⟩, ⟨(some 4), none, (.mv (.t 11))⟩]) .ret) .skip)) (.seq (.ops [⟨(some 13), none, (.mv (.t 0))⟩, ⟨(some 14), none, (.fld 0 (.t 3))⟩, ⟨(some 15), none, (.ld false 1 (.t 14))⟩, ⟨(some 16), none, (.fld 1 (.t 3))⟩, ⟨(some 17), none, (.ld false 1 (.t 16))⟩, ⟨(some 18), none, (.fld 2 (.t 3))⟩, ⟨(some 19), none, (.ld false 1 (.t 18))⟩, ⟨(some 20), none, (.fld 3 (.t 3))⟩, ⟨(some 21), none, (.ld false 1 (.t 20))⟩, ⟨(some 22), none, (.fld 4 (.t 3))⟩, ⟨(some 23), none, (.ld false 1 (.t 22))⟩, ⟨(some 24), none, (.call false 23 [(.t 13), (.t 15), (.t 17), (.t 19), (.t 21), (.t 23)])⟩, ⟨(some 12), none, (.mv (.t 24))⟩, ⟨(some 25), none, (.ext (.t 12) 0)⟩, ⟨(some 26), none, (.ext (.t 12) 1)⟩, ⟨(some 5), none, (.mv (.t 25))⟩, ⟨(some 6), none, (.mv (.t 26))⟩]) (.seq (.ops [⟨(some 28), none, (.mv (.t 0))⟩, ⟨(some 29), none, (.fld 0 (.t 3))⟩, ⟨(some 30), none, (.ld false 1 (.t 29))⟩, ⟨(some 31), none, (.fld 1 (.t 3))⟩, ⟨(some 32), none, (.ld false 1 (.t 31))⟩, ⟨(some 33), none, (.fld 2 (.t 3))⟩, ⟨(some 34), none, (.ld false 1 (.t 33))⟩, ⟨(some 35), none, (.fld 3 (.t 3))⟩, ⟨(some 36), none, (.ld false 1 (.t 35))⟩, ⟨(some 37), none, (.fld 4 (.t 3))⟩, ⟨(some 38), none, (.ld false 1 (.t 37))⟩, ⟨(some 39), none, (.call false 24 [(.t 28), (.t 30), (.t 32), (.t 34), (.t 36), (.t 38)])⟩, ⟨(some 27), none, (.mv (.t 39))⟩, ⟨(some 40), none, (.ext (.t 27) 0)⟩, ⟨(some 41), none, (.ext (.t 27) 1)⟩, ⟨(some 7), none, (.mv (.t 40))⟩, ⟨(some 8), none, (.mv (.t 41))⟩]) (.seq (.ops [⟨(some 42), none, (.mv (.t 5))⟩, ⟨(some 43), none, (.mv (.t 7))⟩, ⟨(some 44), none, (.call false 20 [(.t 42), (.t 43)])⟩, ⟨(some 45), none, (.mv (.t 44))⟩, ⟨(some 46), (some (45, true)), (.mv (.t 6))⟩, ⟨(some 47), (some (45, true)), (.mv (.t 8))⟩, ⟨(some 48), (some (45, true)), (.bin .eql (.t 46) (.t 47))⟩, ⟨(some 49), none, (.pick (.t 45) (.t 48) (.c (.bool false)))⟩, ⟨(some 50), none, (.mv (.t 49))⟩, ⟨(some 51), (some (50, true)), (.call false 10 [])⟩, ⟨(some 52), none, (.pick (.t 50) (.t 51) (.c (.bool false)))⟩, ⟨(some 4), none, (.mv (.t 52))⟩]) .ret)))))
theorem tr5 : Try.f5.body.bind (trCode Try.prog) = some (strip ac5) := by kernel_rfl
theorem spec5 (l : List Md) (a : Ask) : Spec Try.prog 5 [.fz (.sl 5 (l.map encMd)), .fz (.agg (encAsk a))] (.fz (.bool true)) := by
  refine spec_at (n := 51) (ars := [(.t 4)]) (ac := ac5) Try.func5 (by kernel_rfl) (by kernel_rfl) tr5 (by kernel_rfl) ?_
  unfold ac5
  by_cases hg : 50 < l.length
  · skip
    iterate 20 (all_goals (try (first
      | ((with_reducible refine of_kSpec ?_); refine call_fz (spec9 l) rfl ?_)
      | ((with_reducible refine of_kSpec ?_); refine call_fz (spec10) rfl ?_)
      | (with_reducible refine ite_in (fun _ => ?_) (fun _ => ?_))
      | (with_reducible refine ⟨fun _ => ?_, fun _ => ?_⟩)
      | (with_reducible refine And.intro ?_ ?_)
      | (with_reducible intro _)
      | (with_reducible exact is_in _)
      | (simp -implicitDefEqProofs only [SD, SF, SL, e_nf, reduceCtorEq, implies_true, ↓reduceIte, Nat.reduceEqDiff, Nat.reduceAdd, Nat.reduceMul, Nat.reduceSub, Nat.reduceLeDiff, Nat.reduceLT, Int.reduceLT, Int.reduceLE, Int.reduceEq, Int.reduceToNat, Int.reduceAdd, Int.reduceSub, Int.reduceNeg, Int.reduceBEq, Int.reduceBNe, Nat.reduceBEq, Int.cast_ofNat_Int, decide_true, decide_false, ne_eq, eq_self_iff_true, beq_eq_false_iff_ne, bne_iff_ne, List.replicate, encMd, encAsk, *]))))
    all_goals (simp_all)
  have hb : l.length ≤ 1000 := by omega
  iterate 90 (all_goals (try (first
    | ((with_reducible refine of_kSpec ?_); refine call_fz (spec9 l) rfl ?_)
    | ((with_reducible refine of_kSpec ?_); refine call_fz (spec10) rfl ?_)
    | ((with_reducible refine of_kSpec ?_); refine call_fz (spec23 l a.own a.server a.name a.size a.now hb) rfl ?_)
    | ((with_reducible refine of_kSpec ?_); refine call_fz (spec24 l a.own a.server a.name a.size a.now hb) rfl ?_)
    | ((with_reducible refine of_kSpec ?_); refine call_fz (spec20 _ _) rfl ?_)
    | (with_reducible refine ite_in (fun _ => ?_) (fun _ => ?_))
    | (with_reducible refine ⟨fun _ => ?_, fun _ => ?_⟩)
    | (with_reducible refine And.intro ?_ ?_)
    | (with_reducible intro _)
    | (with_reducible exact is_in _)
    | (simp -implicitDefEqProofs only [SD, SF, SL, e_nf, reduceCtorEq, implies_true, ↓reduceIte, Nat.reduceEqDiff, Nat.reduceAdd, Nat.reduceMul, Nat.reduceSub, Nat.reduceLeDiff, Nat.reduceLT, Int.reduceLT, Int.reduceLE, Int.reduceEq, Int.reduceToNat, Int.reduceAdd, Int.reduceSub, Int.reduceNeg, Int.reduceBEq, Int.reduceBNe, Nat.reduceBEq, Int.cast_ofNat_Int, decide_true, decide_false, ne_eq, eq_self_iff_true, beq_eq_false_iff_ne, bne_iff_ne, List.replicate, encMd, encAsk, *]))))
  all_goals (simp_all)
def ac6 : AC := (.seq (.ops [⟨(some 3), none, (.box (.t 1))⟩, ⟨(some 4), none, (.mv (.c (.bool false)))⟩]) (.seq (.seq (.ops [⟨(some 5), none, (.mv (.t 0))⟩, ⟨(some 6), none, (.call false 9 [(.t 5)])⟩]) (.cond (.t 6) (.seq (.ops [⟨(some 7), none, (.call false 10 [])⟩, ⟨(some 4), none, (.mv (.t 7))⟩]) .ret) .skip)) (.seq (.draw (.q false ⟨(some 8), none, (.mv (.t 0))⟩ (.q false ⟨(some 9), none, (.fld 0 (.t 3))⟩ (.q false ⟨(some 10), none, (.ld false 1 (.t 9))⟩ (.q false ⟨(some 11), none, (.fld 4 (.t 3))⟩ (.q false ⟨(some 12), none, (.ld false 1 (.t 11))⟩ (.q false ⟨(some 13), none, (.fld 3 (.t 3))⟩ (.q false ⟨(some 14), none, (.ld false 1 (.t 13))⟩ (.q false ⟨(some 16), none, (.mv (.t 0))⟩ (.q false ⟨(some 17), none, (.fld 0 (.t 3))⟩ (.q false ⟨(some 18), none, (.ld false 1 (.t 17))⟩ (.q false ⟨(some 19), none, (.fld 4 (.t 3))⟩ (.q false ⟨(some 20), none, (.ld false 1 (.t 19))⟩ (.q false ⟨(some 21), none, (.fld 3 (.t 3))⟩ (.q false ⟨(some 22), none, (.ld false 1 (.t 21))⟩ (.op ⟨(some 15), none, (.call false 25 [(.t 8), (.t 10), (.t 12), (.t 14)])⟩ (.op ⟨(some 23), none, (.call false 26 [(.t 16), (.t 18), (.t 20), (.t 22)])⟩ (.op ⟨(some 24), none, (.call false 20 [(.t 15), (.t 23)])⟩ (.q false ⟨(some 25), none, (.mv (.t 24))⟩ (.op ⟨(some 26), (some (25, true)), (.call false 10 [])⟩ (.q false ⟨(some 27), none, (.pick (.t 25) (.t 26) (.c (.bool false)))⟩ (.q false ⟨(some 4), none, (.mv (.t 27))⟩ .nil)))))))))))))))))))))) .ret)))
theorem tr6 : Try.f6.body.bind (trCode Try.prog) = some (strip ac6) := by kernel_rfl
theorem spec6 (l : List Md) (a : Ask) (hn : a.now < 9223372036854775808) : Spec Try.prog 6 [.fz (.sl 5 (l.map encMd)), .fz (.agg (encAsk a))] (.fz (.bool true)) := by
  refine spec_at (n := 26) (ars := [(.t 4)]) (ac := ac6) Try.func6 (by kernel_rfl) (by kernel_rfl) tr6 (by kernel_rfl) ?_
  unfold ac6
  by_cases hg : 50 < l.length
  · skip
    iterate 20 (all_goals (try (first
      | ((with_reducible refine of_kSpec ?_); refine call_fz (spec9 l) rfl ?_)
      | ((with_reducible refine of_kSpec ?_); refine call_fz (spec10) rfl ?_)
      | (with_reducible refine ite_in (fun _ => ?_) (fun _ => ?_))
      | (with_reducible refine ⟨fun _ => ?_, fun _ => ?_⟩)
      | (with_reducible refine And.intro ?_ ?_)
      | (with_reducible intro _)
      | (with_reducible exact is_in _)
      | (simp -implicitDefEqProofs only [SD, SF, SL, e_nf, reduceCtorEq, implies_true, ↓reduceIte, Nat.reduceEqDiff, Nat.reduceAdd, Nat.reduceMul, Nat.reduceSub, Nat.reduceLeDiff, Nat.reduceLT, Int.reduceLT, Int.reduceLE, Int.reduceEq, Int.reduceToNat, Int.reduceAdd, Int.reduceSub, Int.reduceNeg, Int.reduceBEq, Int.reduceBNe, Nat.reduceBEq, Int.cast_ofNat_Int, decide_true, decide_false, ne_eq, eq_self_iff_true, beq_eq_false_iff_ne, bne_iff_ne, List.replicate, encMd, encAsk, *]))))
    all_goals (simp_all)
  have hb : l.length ≤ 1000 := by omega
  iterate 90 (all_goals (try (first
    | ((with_reducible refine of_kSpec ?_); refine call_fz (spec9 l) rfl ?_)
    | ((with_reducible refine of_kSpec ?_); refine call_fz (spec10) rfl ?_)
    | ((with_reducible refine of_kSpec ?_); refine call_fz (spec25 l a.own a.now a.size hb) rfl ?_)
    | ((with_reducible refine of_kSpec ?_); refine call_fz (spec26 l a.own a.now a.size hb hn) rfl ?_)
    | ((with_reducible refine of_kSpec ?_); refine call_fz (spec20 _ _) rfl ?_)
    | (with_reducible refine ite_in (fun _ => ?_) (fun _ => ?_))
    | (with_reducible refine ⟨fun _ => ?_, fun _ => ?_⟩)
    | (with_reducible refine And.intro ?_ ?_)
    | (with_reducible intro _)
    | (with_reducible exact is_in _)
    | (simp -implicitDefEqProofs only [SD, SF, SL, e_nf, reduceCtorEq, implies_true, ↓reduceIte, Nat.reduceEqDiff, Nat.reduceAdd, Nat.reduceMul, Nat.reduceSub, Nat.reduceLeDiff, Nat.reduceLT, Int.reduceLT, Int.reduceLE, Int.reduceEq, Int.reduceToNat, Int.reduceAdd, Int.reduceSub, Int.reduceNeg, Int.reduceBEq, Int.reduceBNe, Nat.reduceBEq, Int.cast_ofNat_Int, decide_true, decide_false, ne_eq, eq_self_iff_true, beq_eq_false_iff_ne, bne_iff_ne, List.replicate, encMd, encAsk, *]))))
  all_goals (simp_all)

end Go.Proofs.Ytfcjmblhcakhaaa.E
