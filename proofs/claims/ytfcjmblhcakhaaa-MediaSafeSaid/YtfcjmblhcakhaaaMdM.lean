/-
  MdM: walks of functions of the program at data level.
-/
import Derived.Test.YtfcjmblhcakhaaaProg
import Derived.Test.YtfcjmblhcakhaaaEngZ
import Derived.Test.YtfcjmblhcakhaaaMdL
import Derived.KernelRfl
set_option linter.unusedVariables false
set_option linter.unusedSimpArgs false
namespace Go.Proofs.Ytfcjmblhcakhaaa.E
open Go
set_option maxHeartbeats 4000000
set_option maxRecDepth 100000
set_option linter.unusedSimpArgs false
set_option linter.unusedVariables false
attribute [local congr] c_wp c_ops c_op c_opS c_run c_runS c_dt c_seq c_blk c_loop c_S c_put c_bind c_mv c_pick c_nt c_ng c_bin c_binI c_binS c_beq c_B c_eqa c_hd c_cells c_blkK c_box c_vec c_mp c_mkm c_mput c_mlk c_mrm c_take c_ld c_ldF c_cellsK c_st c_fld c_fldv c_ix c_ixp c_ixv c_ixs c_sub c_subs c_len c_lens c_src c_dst c_ow c_app c_ext c_mm c_conv c_str c_isn c_fill c_rows c_boxo c_frz c_frzO c_frzA c_frzV c_spec c_specO c_opsP c_opP c_runP c_specP c_Z c_qretP c_fz c_fn c_gv c_cond c_res1 c_resL c_ret c_qret c_ite c_unr c_nx c_bk c_cut c_is
attribute [local irreducible] dwp
def ac9 : AC := (.seq (.ops [⟨(some 2), none, (.mv (.c (.bool false)))⟩]) (.seq (.ops [⟨(some 3), none, (.mv (.t 0))⟩, ⟨(some 4), none, (.len (.t 3))⟩, ⟨(some 5), none, (.bin .gtr (.t 4) (.c (.int .i64 50)))⟩, ⟨(some 2), none, (.mv (.t 5))⟩]) .ret))
theorem tr9 : Try.f9.body.bind (trCode Try.prog) = some (strip ac9) := by kernel_rfl
theorem spec9 (l : List Md) : Spec Try.prog 9 [.fz (.sl 5 (l.map encMd))] (.fz (.bool (decide (50 < l.length)))) := by
  refine spec_at (n := 5) (ars := [(.t 2)]) (ac := ac9) Try.func9 (by kernel_rfl) (by kernel_rfl) tr9 (by kernel_rfl) ?_
  unfold ac9
  iterate 30 (all_goals (try (first
    | (with_reducible refine ite_in (fun _ => ?_) (fun _ => ?_))
    | (with_reducible refine ⟨fun _ => ?_, fun _ => ?_⟩)
    | (with_reducible refine And.intro ?_ ?_)
    | (with_reducible intro _)
    | (with_reducible exact is_in _)
    | (simp -implicitDefEqProofs only [SD, SF, SL, e_nf, reduceCtorEq, implies_true, ↓reduceIte, Nat.reduceEqDiff, Nat.reduceAdd, Nat.reduceMul, Nat.reduceSub, Nat.reduceLeDiff, Nat.reduceLT, Int.reduceLT, Int.reduceLE, Int.reduceEq, Int.reduceToNat, Int.reduceAdd, Int.reduceSub, Int.reduceNeg, Int.reduceBEq, Int.reduceBNe, Nat.reduceBEq, Int.cast_ofNat_Int, decide_true, decide_false, ne_eq, eq_self_iff_true, beq_eq_false_iff_ne, bne_iff_ne, List.replicate, *]))))
  all_goals (first | (simp_all; done) | (simp_all; omega))

theorem live1 : fetchR ([] : List Md) [97] [98] [99, 97, 116] 7 100 = (([⟨[98], [99, 97, 116], 7, 100, 1⟩] : List Md), 0) := by kernel_rfl
theorem live2 : expR ([⟨[98], [99, 97, 116], 7, 100, 1⟩] : List Md) [97] 150 50 = ([⟨[98], [99, 97, 116], 7, 100, 1⟩] : List Md) := by kernel_rfl
theorem live3 : expR ([⟨[98], [99, 97, 116], 7, 100, 1⟩] : List Md) [97] 151 50 = ([⟨[98], [99, 97, 116], 7, 100, 3⟩] : List Md) := by kernel_rfl
theorem live4 : fetchR ([⟨[98], [99, 97, 116], 7, 100, 3⟩] : List Md) [97] [98] [99, 97, 116] 8 200 = (([⟨[98], [99, 97, 116], 8, 200, 1⟩] : List Md), 0) := by kernel_rfl
theorem live5 : quarR ([] : List Md) [98] [120] = ([⟨[98], [120], 0, 0, 2⟩] : List Md) := by kernel_rfl
theorem live6 : fetchR ([⟨[98], [120], 0, 0, 2⟩] : List Md) [97] [98] [120] 1 1 = (([] : List Md), 27) := by kernel_rfl
theorem live7 : fetchR ([] : List Md) [97] [97] [120] 1 1 = (([] : List Md), 5) := by kernel_rfl
theorem live8 : addR ([] : List Md) ⟨[98], [99], 0, 0, 0⟩ = (([⟨[98], [99], 0, 0, 0⟩] : List Md), 0) := by kernel_rfl
theorem live9 : getR ([⟨[98], [99, 97, 116], 7, 100, 3⟩] : List Md) [98] [99, 97, 116] = (⟨[98], [99, 97, 116], 7, 100, 3⟩, true) := by kernel_rfl
theorem live10 : totR ([⟨[98], [99, 97, 116], 7, 100, 1⟩] : List Md) = 7 := by kernel_rfl
theorem live11 : totR ([⟨[98], [99, 97, 116], 8, 200, 1⟩] : List Md) = 8 := by kernel_rfl
theorem live12 : chkL ([⟨[98], [99, 97, 116], 8, 200, 1⟩] : List Md) = 0 := by kernel_rfl
def ac10 : AC := (.seq (.ops [⟨(some 0), none, (.mv (.c (.bool false)))⟩]) (.seq (.ops [⟨(some 17), none, (.call false 23 [(.c .e0), (.c (.str [97])), (.c (.str [98])), (.c (.str [99, 97, 116])), (.c (.int .i64 7)), (.c (.int .i64 100))])⟩, ⟨(some 16), none, (.mv (.t 17))⟩, ⟨(some 18), none, (.ext (.t 16) 0)⟩, ⟨(some 19), none, (.ext (.t 16) 1)⟩, ⟨(some 1), none, (.mv (.t 18))⟩, ⟨(some 2), none, (.mv (.t 19))⟩]) (.seq (.ops [⟨(some 20), none, (.mv (.t 1))⟩, ⟨(some 21), none, (.call false 25 [(.t 20), (.c (.str [97])), (.c (.int .i64 150)), (.c (.int .i64 50))])⟩, ⟨(some 3), none, (.mv (.t 21))⟩]) (.seq (.ops [⟨(some 22), none, (.mv (.t 1))⟩, ⟨(some 23), none, (.call false 25 [(.t 22), (.c (.str [97])), (.c (.int .i64 151)), (.c (.int .i64 50))])⟩, ⟨(some 4), none, (.mv (.t 23))⟩]) (.seq (.ops [⟨(some 25), none, (.mv (.t 4))⟩, ⟨(some 26), none, (.call false 23 [(.t 25), (.c (.str [97])), (.c (.str [98])), (.c (.str [99, 97, 116])), (.c (.int .i64 8)), (.c (.int .i64 200))])⟩, ⟨(some 24), none, (.mv (.t 26))⟩, ⟨(some 27), none, (.ext (.t 24) 0)⟩, ⟨(some 28), none, (.ext (.t 24) 1)⟩, ⟨(some 5), none, (.mv (.t 27))⟩, ⟨(some 6), none, (.mv (.t 28))⟩]) (.seq (.ops [⟨(some 29), none, (.call false 21 [(.c .e0), (.c (.str [98])), (.c (.str [120]))])⟩, ⟨(some 7), none, (.mv (.t 29))⟩]) (.seq (.ops [⟨(some 31), none, (.mv (.t 7))⟩, ⟨(some 32), none, (.call false 23 [(.t 31), (.c (.str [97])), (.c (.str [98])), (.c (.str [120])), (.c (.int .i64 1)), (.c (.int .i64 1))])⟩, ⟨(some 30), none, (.mv (.t 32))⟩, ⟨(some 33), none, (.ext (.t 30) 0)⟩, ⟨(some 34), none, (.ext (.t 30) 1)⟩, ⟨(some 8), none, (.mv (.t 33))⟩, ⟨(some 9), none, (.mv (.t 34))⟩]) (.seq (.ops [⟨(some 36), none, (.call false 23 [(.c .e0), (.c (.str [97])), (.c (.str [97])), (.c (.str [120])), (.c (.int .i64 1)), (.c (.int .i64 1))])⟩, ⟨(some 35), none, (.mv (.t 36))⟩, ⟨(some 37), none, (.ext (.t 35) 0)⟩, ⟨(some 38), none, (.ext (.t 35) 1)⟩, ⟨(some 10), none, (.mv (.t 37))⟩, ⟨(some 11), none, (.mv (.t 38))⟩]) (.seq (.ops [⟨(some 40), none, (.build [(.str []), (.str []), (.int .i64 0), (.int .i64 0), (.int .i64 0)] [(0, (1, (.c (.str [98])))), (1, (1, (.c (.str [99]))))])⟩, ⟨(some 41), none, (.call false 18 [(.c .e0), (.t 40)])⟩, ⟨(some 39), none, (.mv (.t 41))⟩, ⟨(some 42), none, (.ext (.t 39) 0)⟩, ⟨(some 43), none, (.ext (.t 39) 1)⟩, ⟨(some 12), none, (.mv (.t 42))⟩, ⟨(some 13), none, (.mv (.t 43))⟩]) (.seq (.ops [⟨(some 45), none, (.mv (.t 4))⟩, ⟨(some 46), none, (.call false 11 [(.t 45), (.c (.str [98])), (.c (.str [99, 97, 116]))])⟩, ⟨(some 44), none, (.mv (.t 46))⟩, ⟨(some 47), none, (.ext (.t 44) 0)⟩, ⟨(some 48), none, (.ext (.t 44) 1)⟩, ⟨(some 14), none, (.alloc [(.str []), (.str []), (.int .i64 0), (.int .i64 0), (.int .i64 0)])⟩, ⟨none, none, (.sto 5 (.t 14) (.t 47))⟩, ⟨(some 15), none, (.mv (.t 48))⟩]) (.seq (.ops [⟨(some 49), none, (.mv (.t 2))⟩, ⟨(some 50), none, (.bin .eql (.t 49) (.c (.int .i64 0)))⟩, ⟨(some 51), none, (.mv (.t 50))⟩, ⟨(some 52), (some (51, true)), (.mv (.t 1))⟩, ⟨(some 53), (some (51, true)), (.call false 15 [(.t 52)])⟩, ⟨(some 54), (some (51, true)), (.bin .eql (.t 53) (.c (.int .i64 7)))⟩, ⟨(some 55), none, (.pick (.t 51) (.t 54) (.c (.bool false)))⟩, ⟨(some 56), none, (.mv (.t 55))⟩, ⟨(some 57), (some (56, true)), (.mv (.t 3))⟩, ⟨(some 58), (some (56, true)), (.mv (.t 1))⟩, ⟨(some 59), (some (56, true)), (.call false 20 [(.t 57), (.t 58)])⟩, ⟨(some 60), none, (.pick (.t 56) (.t 59) (.c (.bool false)))⟩, ⟨(some 61), none, (.mv (.t 60))⟩, ⟨(some 62), (some (61, true)), (.mv (.t 15))⟩, ⟨(some 63), none, (.pick (.t 61) (.t 62) (.c (.bool false)))⟩, ⟨(some 64), none, (.mv (.t 63))⟩, ⟨(some 65), (some (64, true)), (.fld 4 (.t 14))⟩, ⟨(some 66), (some (64, true)), (.ld false 1 (.t 65))⟩, ⟨(some 67), (some (64, true)), (.bin .eql (.t 66) (.c (.int .i64 3)))⟩, ⟨(some 68), none, (.pick (.t 64) (.t 67) (.c (.bool false)))⟩, ⟨(some 69), none, (.mv (.t 68))⟩, ⟨(some 70), (some (69, true)), (.fld 2 (.t 14))⟩, ⟨(some 71), (some (69, true)), (.ld false 1 (.t 70))⟩, ⟨(some 72), (some (69, true)), (.bin .eql (.t 71) (.c (.int .i64 7)))⟩, ⟨(some 73), none, (.pick (.t 69) (.t 72) (.c (.bool false)))⟩, ⟨(some 74), none, (.mv (.t 73))⟩, ⟨(some 75), (some (74, true)), (.mv (.t 6))⟩, ⟨(some 76), (some (74, true)), (.bin .eql (.t 75) (.c (.int .i64 0)))⟩, ⟨(some 77), none, (.pick (.t 74) (.t 76) (.c (.bool false)))⟩, ⟨(some 78), none, (.mv (.t 77))⟩, ⟨(some 79), (some (78, true)), (.mv (.t 5))⟩, ⟨(some 80), (some (78, true)), (.call false 15 [(.t 79)])⟩, ⟨(some 81), (some (78, true)), (.bin .eql (.t 80) (.c (.int .i64 8)))⟩, ⟨(some 82), none, (.pick (.t 78) (.t 81) (.c (.bool false)))⟩, ⟨(some 83), none, (.mv (.t 82))⟩, ⟨(some 84), (some (83, true)), (.mv (.t 7))⟩, ⟨(some 85), (some (83, true)), (.len (.t 84))⟩, ⟨(some 86), (some (83, true)), (.bin .eql (.t 85) (.c (.int .i64 1)))⟩, ⟨(some 87), none, (.pick (.t 83) (.t 86) (.c (.bool false)))⟩, ⟨(some 88), none, (.mv (.t 87))⟩, ⟨(some 89), (some (88, true)), (.mv (.t 7))⟩, ⟨(some 90), (some (88, true)), (.ix 5 (.t 89) (.c (.int .i64 0)))⟩, ⟨(some 91), (some (88, true)), (.fld 4 (.t 90))⟩, ⟨(some 92), (some (88, true)), (.ld false 1 (.t 91))⟩, ⟨(some 93), (some (88, true)), (.bin .eql (.t 92) (.c (.int .i64 2)))⟩, ⟨(some 94), none, (.pick (.t 88) (.t 93) (.c (.bool false)))⟩, ⟨(some 95), none, (.mv (.t 94))⟩, ⟨(some 96), (some (95, true)), (.mv (.t 9))⟩, ⟨(some 97), (some (95, true)), (.bin .eql (.t 96) (.c (.int .i64 27)))⟩, ⟨(some 98), none, (.pick (.t 95) (.t 97) (.c (.bool false)))⟩, ⟨(some 99), none, (.mv (.t 98))⟩, ⟨(some 100), (some (99, true)), (.mv (.t 11))⟩, ⟨(some 101), (some (99, true)), (.bin .eql (.t 100) (.c (.int .i64 5)))⟩, ⟨(some 102), none, (.pick (.t 99) (.t 101) (.c (.bool false)))⟩, ⟨(some 103), none, (.mv (.t 102))⟩, ⟨(some 104), (some (103, true)), (.mv (.t 12))⟩, ⟨(some 105), (some (103, true)), (.len (.t 104))⟩, ⟨(some 106), (some (103, true)), (.bin .eql (.t 105) (.c (.int .i64 1)))⟩, ⟨(some 107), none, (.pick (.t 103) (.t 106) (.c (.bool false)))⟩, ⟨(some 108), none, (.mv (.t 107))⟩, ⟨(some 109), (some (108, true)), (.mv (.t 13))⟩, ⟨(some 110), (some (108, true)), (.bin .eql (.t 109) (.c (.int .i64 0)))⟩, ⟨(some 111), none, (.pick (.t 108) (.t 110) (.c (.bool false)))⟩, ⟨(some 112), none, (.mv (.t 111))⟩, ⟨(some 113), (some (112, true)), (.mv (.t 5))⟩, ⟨(some 114), (some (112, true)), (.call false 13 [(.t 113)])⟩, ⟨(some 115), (some (112, true)), (.bin .eql (.t 114) (.c (.int .i64 0)))⟩, ⟨(some 116), none, (.pick (.t 112) (.t 115) (.c (.bool false)))⟩, ⟨(some 0), none, (.mv (.t 116))⟩]) .ret)))))))))))
theorem tr10 : Try.f10.body.bind (trCode Try.prog) = some (strip ac10) := by kernel_rfl
theorem spec10  : Spec Try.prog 10 [] (.fz (.bool true)) := by
  refine spec_at (n := 117) (ars := [(.t 0)]) (ac := ac10) Try.func10 (by kernel_rfl) (by kernel_rfl) tr10 (by kernel_rfl) ?_
  unfold ac10
  iterate 150 (all_goals (try (first
    | ((with_reducible refine of_kSpec ?_)
       refine call_sub (ds' := [.sl 5 (([] : List Md).map encMd), .str [97], .str [98], .str [99, 97, 116], .int .i64 7, .int .i64 100]) (spec23 ([] : List Md) [97] [98] [99, 97, 116] 7 100 (by decide)) rfl ?_ ?_
       · simp -implicitDefEqProofs only [SD, SF, SL, e_nf, reduceCtorEq, implies_true, ↓reduceIte, Nat.reduceEqDiff, Nat.reduceAdd, Nat.reduceMul, Nat.reduceSub, Nat.reduceLeDiff, Nat.reduceLT, Int.reduceLT, Int.reduceLE, Int.reduceEq, Int.reduceToNat, Int.reduceAdd, Int.reduceSub, Int.reduceNeg, Int.reduceBEq, Int.reduceBNe, Nat.reduceBEq, Int.cast_ofNat_Int, decide_true, decide_false, ne_eq, eq_self_iff_true, beq_eq_false_iff_ne, bne_iff_ne, List.replicate, encMd]
         done)
    | ((with_reducible refine of_kSpec ?_)
       refine call_sub (ds' := [.sl 5 (([⟨[98], [99, 97, 116], 7, 100, 1⟩] : List Md).map encMd), .str [97], .int .i64 150, .int .i64 50]) (spec25 ([⟨[98], [99, 97, 116], 7, 100, 1⟩] : List Md) [97] 150 50 (by decide)) rfl ?_ ?_
       · simp -implicitDefEqProofs only [SD, SF, SL, e_nf, reduceCtorEq, implies_true, ↓reduceIte, Nat.reduceEqDiff, Nat.reduceAdd, Nat.reduceMul, Nat.reduceSub, Nat.reduceLeDiff, Nat.reduceLT, Int.reduceLT, Int.reduceLE, Int.reduceEq, Int.reduceToNat, Int.reduceAdd, Int.reduceSub, Int.reduceNeg, Int.reduceBEq, Int.reduceBNe, Nat.reduceBEq, Int.cast_ofNat_Int, decide_true, decide_false, ne_eq, eq_self_iff_true, beq_eq_false_iff_ne, bne_iff_ne, List.replicate, encMd]
         done)
    | ((with_reducible refine of_kSpec ?_)
       refine call_sub (ds' := [.sl 5 (([⟨[98], [99, 97, 116], 7, 100, 1⟩] : List Md).map encMd), .str [97], .int .i64 151, .int .i64 50]) (spec25 ([⟨[98], [99, 97, 116], 7, 100, 1⟩] : List Md) [97] 151 50 (by decide)) rfl ?_ ?_
       · simp -implicitDefEqProofs only [SD, SF, SL, e_nf, reduceCtorEq, implies_true, ↓reduceIte, Nat.reduceEqDiff, Nat.reduceAdd, Nat.reduceMul, Nat.reduceSub, Nat.reduceLeDiff, Nat.reduceLT, Int.reduceLT, Int.reduceLE, Int.reduceEq, Int.reduceToNat, Int.reduceAdd, Int.reduceSub, Int.reduceNeg, Int.reduceBEq, Int.reduceBNe, Nat.reduceBEq, Int.cast_ofNat_Int, decide_true, decide_false, ne_eq, eq_self_iff_true, beq_eq_false_iff_ne, bne_iff_ne, List.replicate, encMd]
         done)
    | ((with_reducible refine of_kSpec ?_)
       refine call_sub (ds' := [.sl 5 (([⟨[98], [99, 97, 116], 7, 100, 3⟩] : List Md).map encMd), .str [97], .str [98], .str [99, 97, 116], .int .i64 8, .int .i64 200]) (spec23 ([⟨[98], [99, 97, 116], 7, 100, 3⟩] : List Md) [97] [98] [99, 97, 116] 8 200 (by decide)) rfl ?_ ?_
       · simp -implicitDefEqProofs only [SD, SF, SL, e_nf, reduceCtorEq, implies_true, ↓reduceIte, Nat.reduceEqDiff, Nat.reduceAdd, Nat.reduceMul, Nat.reduceSub, Nat.reduceLeDiff, Nat.reduceLT, Int.reduceLT, Int.reduceLE, Int.reduceEq, Int.reduceToNat, Int.reduceAdd, Int.reduceSub, Int.reduceNeg, Int.reduceBEq, Int.reduceBNe, Nat.reduceBEq, Int.cast_ofNat_Int, decide_true, decide_false, ne_eq, eq_self_iff_true, beq_eq_false_iff_ne, bne_iff_ne, List.replicate, encMd]
         done)
    | ((with_reducible refine of_kSpec ?_)
       refine call_sub (ds' := [.sl 5 (([] : List Md).map encMd), .str [98], .str [120]]) (spec21 ([] : List Md) [98] [120] (by decide)) rfl ?_ ?_
       · simp -implicitDefEqProofs only [SD, SF, SL, e_nf, reduceCtorEq, implies_true, ↓reduceIte, Nat.reduceEqDiff, Nat.reduceAdd, Nat.reduceMul, Nat.reduceSub, Nat.reduceLeDiff, Nat.reduceLT, Int.reduceLT, Int.reduceLE, Int.reduceEq, Int.reduceToNat, Int.reduceAdd, Int.reduceSub, Int.reduceNeg, Int.reduceBEq, Int.reduceBNe, Nat.reduceBEq, Int.cast_ofNat_Int, decide_true, decide_false, ne_eq, eq_self_iff_true, beq_eq_false_iff_ne, bne_iff_ne, List.replicate, encMd]
         done)
    | ((with_reducible refine of_kSpec ?_)
       refine call_sub (ds' := [.sl 5 (([⟨[98], [120], 0, 0, 2⟩] : List Md).map encMd), .str [97], .str [98], .str [120], .int .i64 1, .int .i64 1]) (spec23 ([⟨[98], [120], 0, 0, 2⟩] : List Md) [97] [98] [120] 1 1 (by decide)) rfl ?_ ?_
       · simp -implicitDefEqProofs only [SD, SF, SL, e_nf, reduceCtorEq, implies_true, ↓reduceIte, Nat.reduceEqDiff, Nat.reduceAdd, Nat.reduceMul, Nat.reduceSub, Nat.reduceLeDiff, Nat.reduceLT, Int.reduceLT, Int.reduceLE, Int.reduceEq, Int.reduceToNat, Int.reduceAdd, Int.reduceSub, Int.reduceNeg, Int.reduceBEq, Int.reduceBNe, Nat.reduceBEq, Int.cast_ofNat_Int, decide_true, decide_false, ne_eq, eq_self_iff_true, beq_eq_false_iff_ne, bne_iff_ne, List.replicate, encMd]
         done)
    | ((with_reducible refine of_kSpec ?_)
       refine call_sub (ds' := [.sl 5 (([] : List Md).map encMd), .str [97], .str [97], .str [120], .int .i64 1, .int .i64 1]) (spec23 ([] : List Md) [97] [97] [120] 1 1 (by decide)) rfl ?_ ?_
       · simp -implicitDefEqProofs only [SD, SF, SL, e_nf, reduceCtorEq, implies_true, ↓reduceIte, Nat.reduceEqDiff, Nat.reduceAdd, Nat.reduceMul, Nat.reduceSub, Nat.reduceLeDiff, Nat.reduceLT, Int.reduceLT, Int.reduceLE, Int.reduceEq, Int.reduceToNat, Int.reduceAdd, Int.reduceSub, Int.reduceNeg, Int.reduceBEq, Int.reduceBNe, Nat.reduceBEq, Int.cast_ofNat_Int, decide_true, decide_false, ne_eq, eq_self_iff_true, beq_eq_false_iff_ne, bne_iff_ne, List.replicate, encMd]
         done)
    | ((with_reducible refine of_kSpec ?_)
       refine call_sub (ds' := [.sl 5 (([] : List Md).map encMd), .agg (encMd ⟨[98], [99], 0, 0, 0⟩)]) (spec18 ([] : List Md) ⟨[98], [99], 0, 0, 0⟩ (by decide)) rfl ?_ ?_
       · simp -implicitDefEqProofs only [SD, SF, SL, e_nf, reduceCtorEq, implies_true, ↓reduceIte, Nat.reduceEqDiff, Nat.reduceAdd, Nat.reduceMul, Nat.reduceSub, Nat.reduceLeDiff, Nat.reduceLT, Int.reduceLT, Int.reduceLE, Int.reduceEq, Int.reduceToNat, Int.reduceAdd, Int.reduceSub, Int.reduceNeg, Int.reduceBEq, Int.reduceBNe, Nat.reduceBEq, Int.cast_ofNat_Int, decide_true, decide_false, ne_eq, eq_self_iff_true, beq_eq_false_iff_ne, bne_iff_ne, List.replicate, encMd]
         done)
    | ((with_reducible refine of_kSpec ?_)
       refine call_sub (ds' := [.sl 5 (([⟨[98], [99, 97, 116], 7, 100, 3⟩] : List Md).map encMd), .str [98], .str [99, 97, 116]]) (spec11 ([⟨[98], [99, 97, 116], 7, 100, 3⟩] : List Md) [98] [99, 97, 116] ) rfl ?_ ?_
       · simp -implicitDefEqProofs only [SD, SF, SL, e_nf, reduceCtorEq, implies_true, ↓reduceIte, Nat.reduceEqDiff, Nat.reduceAdd, Nat.reduceMul, Nat.reduceSub, Nat.reduceLeDiff, Nat.reduceLT, Int.reduceLT, Int.reduceLE, Int.reduceEq, Int.reduceToNat, Int.reduceAdd, Int.reduceSub, Int.reduceNeg, Int.reduceBEq, Int.reduceBNe, Nat.reduceBEq, Int.cast_ofNat_Int, decide_true, decide_false, ne_eq, eq_self_iff_true, beq_eq_false_iff_ne, bne_iff_ne, List.replicate, encMd]
         done)
    | ((with_reducible refine of_kSpec ?_)
       refine call_sub (ds' := [.sl 5 (([⟨[98], [99, 97, 116], 7, 100, 1⟩] : List Md).map encMd)]) (spec15 ([⟨[98], [99, 97, 116], 7, 100, 1⟩] : List Md)  ) rfl ?_ ?_
       · simp -implicitDefEqProofs only [SD, SF, SL, e_nf, reduceCtorEq, implies_true, ↓reduceIte, Nat.reduceEqDiff, Nat.reduceAdd, Nat.reduceMul, Nat.reduceSub, Nat.reduceLeDiff, Nat.reduceLT, Int.reduceLT, Int.reduceLE, Int.reduceEq, Int.reduceToNat, Int.reduceAdd, Int.reduceSub, Int.reduceNeg, Int.reduceBEq, Int.reduceBNe, Nat.reduceBEq, Int.cast_ofNat_Int, decide_true, decide_false, ne_eq, eq_self_iff_true, beq_eq_false_iff_ne, bne_iff_ne, List.replicate, encMd]
         done)
    | ((with_reducible refine of_kSpec ?_)
       refine call_sub (ds' := [.sl 5 (([⟨[98], [99, 97, 116], 8, 200, 1⟩] : List Md).map encMd)]) (spec15 ([⟨[98], [99, 97, 116], 8, 200, 1⟩] : List Md)  ) rfl ?_ ?_
       · simp -implicitDefEqProofs only [SD, SF, SL, e_nf, reduceCtorEq, implies_true, ↓reduceIte, Nat.reduceEqDiff, Nat.reduceAdd, Nat.reduceMul, Nat.reduceSub, Nat.reduceLeDiff, Nat.reduceLT, Int.reduceLT, Int.reduceLE, Int.reduceEq, Int.reduceToNat, Int.reduceAdd, Int.reduceSub, Int.reduceNeg, Int.reduceBEq, Int.reduceBNe, Nat.reduceBEq, Int.cast_ofNat_Int, decide_true, decide_false, ne_eq, eq_self_iff_true, beq_eq_false_iff_ne, bne_iff_ne, List.replicate, encMd]
         done)
    | ((with_reducible refine of_kSpec ?_)
       refine call_sub (ds' := [.sl 5 (([⟨[98], [99, 97, 116], 8, 200, 1⟩] : List Md).map encMd)]) (spec13 ([⟨[98], [99, 97, 116], 8, 200, 1⟩] : List Md)  ) rfl ?_ ?_
       · simp -implicitDefEqProofs only [SD, SF, SL, e_nf, reduceCtorEq, implies_true, ↓reduceIte, Nat.reduceEqDiff, Nat.reduceAdd, Nat.reduceMul, Nat.reduceSub, Nat.reduceLeDiff, Nat.reduceLT, Int.reduceLT, Int.reduceLE, Int.reduceEq, Int.reduceToNat, Int.reduceAdd, Int.reduceSub, Int.reduceNeg, Int.reduceBEq, Int.reduceBNe, Nat.reduceBEq, Int.cast_ofNat_Int, decide_true, decide_false, ne_eq, eq_self_iff_true, beq_eq_false_iff_ne, bne_iff_ne, List.replicate, encMd]
         done)
    | ((with_reducible refine of_kSpec ?_)
       refine call_sub (ds' := [.sl 5 (([⟨[98], [99, 97, 116], 7, 100, 1⟩] : List Md).map encMd), .sl 5 (([⟨[98], [99, 97, 116], 7, 100, 1⟩] : List Md).map encMd)]) (spec20 ([⟨[98], [99, 97, 116], 7, 100, 1⟩] : List Md) ([⟨[98], [99, 97, 116], 7, 100, 1⟩] : List Md)) rfl ?_ ?_
       · simp -implicitDefEqProofs only [SD, SF, SL, e_nf, reduceCtorEq, implies_true, ↓reduceIte, Nat.reduceEqDiff, Nat.reduceAdd, Nat.reduceMul, Nat.reduceSub, Nat.reduceLeDiff, Nat.reduceLT, Int.reduceLT, Int.reduceLE, Int.reduceEq, Int.reduceToNat, Int.reduceAdd, Int.reduceSub, Int.reduceNeg, Int.reduceBEq, Int.reduceBNe, Nat.reduceBEq, Int.cast_ofNat_Int, decide_true, decide_false, ne_eq, eq_self_iff_true, beq_eq_false_iff_ne, bne_iff_ne, List.replicate, encMd]
         done)
    | (with_reducible refine ite_in (fun _ => ?_) (fun _ => ?_))
    | (with_reducible refine ⟨fun _ => ?_, fun _ => ?_⟩)
    | (with_reducible refine And.intro ?_ ?_)
    | (with_reducible intro _)
    | (with_reducible exact is_in _)
    | (simp -implicitDefEqProofs only [SD, SF, SL, e_nf, reduceCtorEq, implies_true, ↓reduceIte, Nat.reduceEqDiff, Nat.reduceAdd, Nat.reduceMul, Nat.reduceSub, Nat.reduceLeDiff, Nat.reduceLT, Int.reduceLT, Int.reduceLE, Int.reduceEq, Int.reduceToNat, Int.reduceAdd, Int.reduceSub, Int.reduceNeg, Int.reduceBEq, Int.reduceBNe, Nat.reduceBEq, Int.cast_ofNat_Int, decide_true, decide_false, ne_eq, eq_self_iff_true, beq_eq_false_iff_ne, bne_iff_ne, List.replicate, encMd, live1, live2, live3, live4, live5, live6, live7, live8, live9, live10, live11, live12, *]))))
  all_goals (decide)

end Go.Proofs.Ytfcjmblhcakhaaa.E
