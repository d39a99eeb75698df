/-
  MdJ: walks of functions of the program at data level.
-/
import Derived.Test.YtfcjmblhcakhaaaProg
import Derived.Test.YtfcjmblhcakhaaaEngZ
import Derived.Test.YtfcjmblhcakhaaaMdI
import Derived.KernelRfl
set_option linter.unusedVariables false
set_option linter.unusedSimpArgs false
namespace Go.Proofs.Ytfcjmblhcakhaaa.E
open Go
set_option maxHeartbeats 4000000
set_option maxRecDepth 100000
set_option linter.unusedSimpArgs false
set_option linter.unusedVariables false
attribute [local congr] c_wp c_ops c_op c_opS c_run c_runS c_dt c_seq c_blk c_loop c_S c_put c_bind c_mv c_pick c_nt c_ng c_bin c_binI c_binS c_beq c_B c_eqa c_hd c_cells c_blkK c_box c_vec c_mp c_mkm c_mput c_mlk c_mrm c_take c_ld c_ldF c_cellsK c_st c_fld c_fldv c_ix c_ixp c_ixv c_ixs c_sub c_subs c_len c_lens c_src c_dst c_ow c_app c_ext c_mm c_conv c_str c_isn c_fill c_rows c_boxo c_frz c_frzO c_frzA c_frzV c_spec c_specO c_opsP c_opP c_runP c_specP c_Z c_qretP c_fz c_fn c_gv c_cond c_res1 c_resL c_ret c_qret c_ite c_unr c_nx c_bk c_cut c_is
attribute [local irreducible] dwp
def ac23 : AC := (.seq (.ops [⟨(some 12), none, (.mv (.c .e0))⟩, ⟨(some 13), none, (.mv (.c (.int .i64 0)))⟩]) (.seq (.seq (.ops [⟨(some 17), none, (.mv (.t 0))⟩, ⟨(some 18), none, (.call false 13 [(.t 17)])⟩, ⟨(some 14), none, (.mv (.t 18))⟩]) (.seq (.ops [⟨(some 19), none, (.mv (.t 14))⟩, ⟨(some 20), none, (.bin .neq (.t 19) (.c (.int .i64 0)))⟩]) (.cond (.t 20) (.seq (.ops [⟨(some 21), none, (.mv (.t 14))⟩, ⟨(some 12), none, (.mv (.c .e0))⟩, ⟨(some 13), none, (.mv (.t 21))⟩]) .ret) .skip))) (.seq (.seq (.ops [⟨(some 22), none, (.mv (.t 2))⟩, ⟨(some 23), none, (.mv (.t 3))⟩, ⟨(some 24), none, (.call false 36 [(.t 22), (.t 23)])⟩, ⟨(some 25), none, (.nt (.t 24))⟩]) (.cond (.t 25) (.seq (.ops [⟨(some 12), none, (.mv (.c .e0))⟩, ⟨(some 13), none, (.mv (.c (.int .i64 3)))⟩]) .ret) .skip)) (.seq (.seq (.ops [⟨(some 26), none, (.mv (.t 4))⟩, ⟨(some 27), none, (.bin .lss (.t 26) (.c (.int .i64 0)))⟩, ⟨(some 28), none, (.mv (.t 27))⟩, ⟨(some 29), (some (28, false)), (.mv (.t 4))⟩, ⟨(some 30), (some (28, false)), (.bin .gtr (.t 29) (.c (.int .i64 1000000000000)))⟩, ⟨(some 31), none, (.pick (.t 28) (.c (.bool true)) (.t 30))⟩, ⟨(some 32), none, (.mv (.t 31))⟩, ⟨(some 33), (some (32, false)), (.mv (.t 5))⟩, ⟨(some 34), (some (32, false)), (.bin .lss (.t 33) (.c (.int .i64 0)))⟩, ⟨(some 35), none, (.pick (.t 32) (.c (.bool true)) (.t 34))⟩, ⟨(some 36), none, (.mv (.t 35))⟩, ⟨(some 37), (some (36, false)), (.mv (.t 5))⟩, ⟨(some 38), (some (36, false)), (.bin .gtr (.t 37) (.c (.int .i64 1000000000)))⟩, ⟨(some 39), none, (.pick (.t 36) (.c (.bool true)) (.t 38))⟩]) (.cond (.t 39) (.seq (.ops [⟨(some 12), none, (.mv (.c .e0))⟩, ⟨(some 13), none, (.mv (.c (.int .i64 2)))⟩]) .ret) .skip)) (.seq (.ops [⟨(some 40), none, (.mv (.t 0))⟩, ⟨(some 41), none, (.mv (.t 2))⟩, ⟨(some 42), none, (.mv (.t 3))⟩, ⟨(some 43), none, (.call false 27 [(.t 40), (.t 41), (.t 42)])⟩, ⟨(some 15), none, (.mv (.t 43))⟩]) (.seq (.seq (.ops [⟨(some 44), none, (.mv (.t 15))⟩, ⟨(some 45), none, (.bin .lss (.t 44) (.c (.int .i64 0)))⟩]) (.cond (.t 45) (.seq (.seq (.ops [⟨(some 46), none, (.mv (.t 2))⟩, ⟨(some 47), none, (.mv (.t 1))⟩, ⟨(some 48), none, (.bin .eql (.t 46) (.t 47))⟩]) (.cond (.t 48) (.seq (.ops [⟨(some 12), none, (.mv (.c .e0))⟩, ⟨(some 13), none, (.mv (.c (.int .i64 5)))⟩]) .ret) .skip)) (.seq (.ops [⟨(some 49), none, (.mv (.t 0))⟩, ⟨(some 50), none, (.mv (.t 2))⟩, ⟨(some 51), none, (.mv (.t 3))⟩, ⟨(some 52), none, (.mv (.t 4))⟩, ⟨(some 53), none, (.mv (.t 5))⟩, ⟨(some 54), none, (.build [(.str []), (.str []), (.int .i64 0), (.int .i64 0), (.int .i64 0)] [(0, (1, (.t 50))), (1, (1, (.t 51))), (2, (1, (.t 52))), (3, (1, (.t 53))), (4, (1, (.c (.int .i64 1))))])⟩, ⟨(some 55), none, (.call false 33 [(.t 49), (.t 54)])⟩, ⟨(some 12), none, (.mv (.t 55))⟩, ⟨(some 13), none, (.mv (.c (.int .i64 0)))⟩]) .ret)) .skip)) (.seq (.seq (.ops [⟨(some 56), none, (.mv (.t 0))⟩, ⟨(some 57), none, (.mv (.t 15))⟩, ⟨(some 58), none, (.ix 5 (.t 56) (.t 57))⟩, ⟨(some 59), none, (.fld 4 (.t 58))⟩, ⟨(some 60), none, (.ld false 1 (.t 59))⟩, ⟨(some 61), none, (.bin .eql (.t 60) (.c (.int .i64 2)))⟩]) (.cond (.t 61) (.seq (.ops [⟨(some 12), none, (.mv (.c .e0))⟩, ⟨(some 13), none, (.mv (.c (.int .i64 27)))⟩]) .ret) .skip)) (.seq (.ops [⟨(some 62), none, (.mv (.t 0))⟩, ⟨(some 63), none, (.call false 35 [(.t 62)])⟩, ⟨(some 16), none, (.mv (.t 63))⟩]) (.seq (.seq (.ops [⟨(some 64), none, (.mv (.t 16))⟩, ⟨(some 65), none, (.mv (.t 15))⟩, ⟨(some 66), none, (.ix 5 (.t 64) (.t 65))⟩, ⟨(some 67), none, (.fld 4 (.t 66))⟩, ⟨(some 68), none, (.ld false 1 (.t 67))⟩, ⟨(some 69), none, (.bin .neq (.t 68) (.c (.int .i64 1)))⟩]) (.cond (.t 69) (.ops [⟨(some 70), none, (.mv (.t 16))⟩, ⟨(some 71), none, (.mv (.t 15))⟩, ⟨(some 72), none, (.mv (.t 4))⟩, ⟨(some 73), none, (.ix 5 (.t 70) (.t 71))⟩, ⟨(some 74), none, (.fld 2 (.t 73))⟩, ⟨none, none, (.sto 1 (.t 74) (.t 72))⟩]) .skip)) (.seq (.ops [⟨(some 75), none, (.mv (.t 16))⟩, ⟨(some 76), none, (.mv (.t 15))⟩, ⟨(some 77), none, (.mv (.t 16))⟩, ⟨(some 78), none, (.mv (.t 15))⟩, ⟨(some 79), none, (.mv (.t 5))⟩, ⟨(some 80), none, (.ix 5 (.t 75) (.t 76))⟩, ⟨(some 81), none, (.fld 4 (.t 80))⟩, ⟨none, none, (.sto 1 (.t 81) (.c (.int .i64 1)))⟩, ⟨(some 82), none, (.ix 5 (.t 77) (.t 78))⟩, ⟨(some 83), none, (.fld 3 (.t 82))⟩, ⟨none, none, (.sto 1 (.t 83) (.t 79))⟩]) (.seq (.ops [⟨(some 84), none, (.mv (.t 16))⟩, ⟨(some 12), none, (.mv (.t 84))⟩, ⟨(some 13), none, (.mv (.c (.int .i64 0)))⟩]) .ret)))))))))))
theorem tr23 : Try.f23.body.bind (trCode Try.prog) = some (strip ac23) := by kernel_rfl
theorem spec23 (l : List Md) (own u v : List UInt8) (size now : Int) (hb : l.length ≤ 1000) : Spec Try.prog 23 [.fz (.sl 5 (l.map encMd)), .fz (.str own), .fz (.str u), .fz (.str v), .fz (.int .i64 size), .fz (.int .i64 now)] (.fz (.tup [.sl 5 ((fetchR l own u v size now).1.map encMd), .int .i64 (fetchR l own u v size now).2])) := by
  refine spec_at (n := 79) (ars := [(.t 12), (.t 13)]) (ac := ac23) Try.func23 (by kernel_rfl) (by kernel_rfl) tr23 (by kernel_rfl) ?_
  unfold ac23
  rcases place_cases l u v 0 with ⟨hp, hf⟩ | ⟨pre, x, rest, he, hp, hf, hu, hsv, hnm⟩
  · skip
    iterate 60 (all_goals (try (first
      | ((with_reducible refine of_kSpec ?_); refine call_fz (spec13 l) rfl ?_)
      | ((with_reducible refine of_kSpec ?_); refine call_fz (spec36 u v) rfl ?_)
      | ((with_reducible refine of_kSpec ?_); refine call_fz (spec27 l u v) rfl ?_)
      | ((with_reducible refine of_kSpec ?_); refine call_ow (spec35 l hb) rfl ?_)
      | ((with_reducible refine of_kSpec ?_); refine call_subo (ds' := [.sl 5 (l.map encMd), .agg (encMd ⟨u, v, size, now, 1⟩)]) (spec33 l ⟨u, v, size, now, 1⟩ hb) rfl ?_ ?_
         · simp -implicitDefEqProofs only [SD, SF, SL, e_nf, reduceCtorEq, implies_true, ↓reduceIte, Nat.reduceEqDiff, Nat.reduceAdd, Nat.reduceMul, Nat.reduceSub, Nat.reduceLeDiff, Nat.reduceLT, Int.reduceLT, Int.reduceLE, Int.reduceEq, Int.reduceToNat, Int.reduceAdd, Int.reduceSub, Int.reduceNeg, Int.reduceBEq, Int.reduceBNe, Nat.reduceBEq, Int.cast_ofNat_Int, decide_true, decide_false, ne_eq, eq_self_iff_true, beq_eq_false_iff_ne, bne_iff_ne, List.replicate, encMd, toQ, toP, *]
           done)
      | (with_reducible refine ite_in (fun _ => ?_) (fun _ => ?_))
      | (with_reducible refine ⟨fun _ => ?_, fun _ => ?_⟩)
      | (with_reducible refine And.intro ?_ ?_)
      | (with_reducible intro _)
      | (with_reducible exact is_in _)
      | (simp -implicitDefEqProofs only [SD, SF, SL, e_nf, reduceCtorEq, implies_true, ↓reduceIte, Nat.reduceEqDiff, Nat.reduceAdd, Nat.reduceMul, Nat.reduceSub, Nat.reduceLeDiff, Nat.reduceLT, Int.reduceLT, Int.reduceLE, Int.reduceEq, Int.reduceToNat, Int.reduceAdd, Int.reduceSub, Int.reduceNeg, Int.reduceBEq, Int.reduceBNe, Nat.reduceBEq, Int.cast_ofNat_Int, decide_true, decide_false, ne_eq, eq_self_iff_true, beq_eq_false_iff_ne, bne_iff_ne, List.replicate, encMd, toP, *]))))
    all_goals (first
      | (simp_all [fetchR, badN]; done)
      | (have hq : fetchR l own u v size now = ([], 2) := by
           simp only [fetchR, badN]
           simp_all
           try omega
         simp_all; done)
      | (have hq : fetchR l own u v size now = (insL l ⟨u, v, size, now, 1⟩, 0) := by
           have : ¬ badN size now := by simp only [badN]; omega
           simp_all [fetchR]
         rw [hq]
         first | exact .inl rfl | rfl | (simp_all; done))
      | (have hq : fetchR l own u v size now = (pre ++ toP size now x :: rest, 0) := by
           have : ¬ badN size now := by simp only [badN]; omega
           simp_all [fetchR]
         rw [hq, set_at he.out]
         first | exact .inl rfl | (simp_all [encMd, toP]; done))
      | (have : ¬ badN size now := by simp only [badN]; omega
         simp_all [fetchR]; done))
  · rw [Nat.zero_add] at hp
    have hx := cutD encMd he
    simp only [encMd] at hx
    have hlt := cut_lt he
    have hlt2 := cut_lt' he
    have hge : ¬ ((pre.length : Int) < 0) := by omega
    obtain ⟨hg1, hs1, hl1⟩ := set_facts he
    replace he := Hd.mk he
    replace hsv := Hd.mk hsv
    replace hnm := Hd.mk hnm
    iterate 60 (all_goals (try (first
      | ((with_reducible refine of_kSpec ?_); refine call_fz (spec13 l) rfl ?_)
      | ((with_reducible refine of_kSpec ?_); refine call_fz (spec36 u v) rfl ?_)
      | ((with_reducible refine of_kSpec ?_); refine call_fz (spec27 l u v) rfl ?_)
      | ((with_reducible refine of_kSpec ?_); refine call_ow (spec35 l hb) rfl ?_)
      | ((with_reducible refine of_kSpec ?_); refine call_subo (ds' := [.sl 5 (l.map encMd), .agg (encMd ⟨u, v, size, now, 1⟩)]) (spec33 l ⟨u, v, size, now, 1⟩ hb) rfl ?_ ?_
         · simp -implicitDefEqProofs only [SD, SF, SL, e_nf, reduceCtorEq, implies_true, ↓reduceIte, Nat.reduceEqDiff, Nat.reduceAdd, Nat.reduceMul, Nat.reduceSub, Nat.reduceLeDiff, Nat.reduceLT, Int.reduceLT, Int.reduceLE, Int.reduceEq, Int.reduceToNat, Int.reduceAdd, Int.reduceSub, Int.reduceNeg, Int.reduceBEq, Int.reduceBNe, Nat.reduceBEq, Int.cast_ofNat_Int, decide_true, decide_false, ne_eq, eq_self_iff_true, beq_eq_false_iff_ne, bne_iff_ne, List.replicate, encMd, toQ, toP, *]
           done)
      | (with_reducible refine ite_in (fun _ => ?_) (fun _ => ?_))
      | (with_reducible refine ⟨fun _ => ?_, fun _ => ?_⟩)
      | (with_reducible refine And.intro ?_ ?_)
      | (with_reducible intro _)
      | (with_reducible exact is_in _)
      | (simp -implicitDefEqProofs only [SD, SF, SL, e_nf, reduceCtorEq, implies_true, ↓reduceIte, Nat.reduceEqDiff, Nat.reduceAdd, Nat.reduceMul, Nat.reduceSub, Nat.reduceLeDiff, Nat.reduceLT, Int.reduceLT, Int.reduceLE, Int.reduceEq, Int.reduceToNat, Int.reduceAdd, Int.reduceSub, Int.reduceNeg, Int.reduceBEq, Int.reduceBNe, Nat.reduceBEq, Int.cast_ofNat_Int, decide_true, decide_false, ne_eq, eq_self_iff_true, beq_eq_false_iff_ne, bne_iff_ne, List.replicate, encMd, toP, *]))))
    all_goals (first
      | (simp_all [fetchR, badN]; done)
      | (have hq : fetchR l own u v size now = ([], 2) := by
           simp only [fetchR, badN]
           simp_all
           try omega
         simp_all; done)
      | (have hq : fetchR l own u v size now = (insL l ⟨u, v, size, now, 1⟩, 0) := by
           have : ¬ badN size now := by simp only [badN]; omega
           simp_all [fetchR]
         rw [hq]
         first | exact .inl rfl | rfl | (simp_all; done))
      | (have hq : fetchR l own u v size now = (pre ++ toP size now x :: rest, 0) := by
           have : ¬ badN size now := by simp only [badN]; omega
           simp_all [fetchR]
         rw [hq, set_at he.out]
         first | exact .inl rfl | (simp_all [encMd, toP]; done))
      | (have : ¬ badN size now := by simp only [badN]; omega
         simp_all [fetchR]; done))

def ac24 : AC := (.seq (.ops [⟨(some 12), none, (.mv (.c .e0))⟩, ⟨(some 13), none, (.mv (.c (.int .i64 0)))⟩]) (.seq (.seq (.ops [⟨(some 17), none, (.mv (.t 0))⟩, ⟨(some 18), none, (.call false 14 [(.t 17)])⟩, ⟨(some 14), none, (.mv (.t 18))⟩]) (.seq (.ops [⟨(some 19), none, (.mv (.t 14))⟩, ⟨(some 20), none, (.bin .neq (.t 19) (.c (.int .i64 0)))⟩]) (.cond (.t 20) (.seq (.ops [⟨(some 21), none, (.mv (.t 14))⟩, ⟨(some 12), none, (.mv (.c .e0))⟩, ⟨(some 13), none, (.mv (.t 21))⟩]) .ret) .skip))) (.seq (.seq (.ops [⟨(some 22), none, (.mv (.t 2))⟩, ⟨(some 23), none, (.mv (.t 3))⟩, ⟨(some 24), none, (.call false 37 [(.t 22), (.t 23)])⟩, ⟨(some 25), none, (.bin .neq (.t 24) (.c (.int .i64 0)))⟩]) (.cond (.t 25) (.seq (.ops [⟨(some 12), none, (.mv (.c .e0))⟩, ⟨(some 13), none, (.mv (.c (.int .i64 3)))⟩]) .ret) .skip)) (.seq (.seq (.ops [⟨(some 26), none, (.mv (.t 4))⟩, ⟨(some 27), none, (.bin .lss (.t 26) (.c (.int .i64 0)))⟩, ⟨(some 28), none, (.mv (.t 27))⟩, ⟨(some 29), (some (28, false)), (.mv (.t 4))⟩, ⟨(some 30), (some (28, false)), (.bin .gtr (.t 29) (.c (.int .i64 1000000000000)))⟩, ⟨(some 31), none, (.pick (.t 28) (.c (.bool true)) (.t 30))⟩, ⟨(some 32), none, (.mv (.t 31))⟩, ⟨(some 33), (some (32, false)), (.mv (.t 5))⟩, ⟨(some 34), (some (32, false)), (.bin .lss (.t 33) (.c (.int .i64 0)))⟩, ⟨(some 35), none, (.pick (.t 32) (.c (.bool true)) (.t 34))⟩, ⟨(some 36), none, (.mv (.t 35))⟩, ⟨(some 37), (some (36, false)), (.mv (.t 5))⟩, ⟨(some 38), (some (36, false)), (.bin .gtr (.t 37) (.c (.int .i64 1000000000)))⟩, ⟨(some 39), none, (.pick (.t 36) (.c (.bool true)) (.t 38))⟩]) (.cond (.t 39) (.seq (.ops [⟨(some 12), none, (.mv (.c .e0))⟩, ⟨(some 13), none, (.mv (.c (.int .i64 2)))⟩]) .ret) .skip)) (.seq (.ops [⟨(some 40), none, (.mv (.t 0))⟩, ⟨(some 41), none, (.mv (.t 2))⟩, ⟨(some 42), none, (.mv (.t 3))⟩, ⟨(some 43), none, (.call false 28 [(.t 40), (.t 41), (.t 42)])⟩, ⟨(some 15), none, (.mv (.t 43))⟩]) (.seq (.seq (.ops [⟨(some 44), none, (.mv (.t 15))⟩, ⟨(some 45), none, (.bin .lss (.t 44) (.c (.int .i64 0)))⟩]) (.cond (.t 45) (.seq (.seq (.ops [⟨(some 46), none, (.mv (.t 2))⟩, ⟨(some 47), none, (.mv (.t 1))⟩, ⟨(some 48), none, (.bin .eql (.t 46) (.t 47))⟩]) (.cond (.t 48) (.seq (.ops [⟨(some 12), none, (.mv (.c .e0))⟩, ⟨(some 13), none, (.mv (.c (.int .i64 5)))⟩]) .ret) .skip)) (.seq (.ops [⟨(some 49), none, (.mv (.t 0))⟩, ⟨(some 50), none, (.mv (.t 2))⟩, ⟨(some 51), none, (.mv (.t 3))⟩, ⟨(some 52), none, (.mv (.t 4))⟩, ⟨(some 53), none, (.mv (.t 5))⟩, ⟨(some 54), none, (.build [(.str []), (.str []), (.int .i64 0), (.int .i64 0), (.int .i64 0)] [(0, (1, (.t 50))), (1, (1, (.t 51))), (2, (1, (.t 52))), (3, (1, (.t 53))), (4, (1, (.c (.int .i64 1))))])⟩, ⟨(some 55), none, (.call false 34 [(.t 49), (.t 54)])⟩, ⟨(some 12), none, (.mv (.t 55))⟩, ⟨(some 13), none, (.mv (.c (.int .i64 0)))⟩]) .ret)) .skip)) (.seq (.ops [⟨(some 56), none, (.mv (.t 0))⟩, ⟨(some 57), none, (.mv (.t 15))⟩, ⟨(some 58), none, (.ix 5 (.t 56) (.t 57))⟩, ⟨(some 59), none, (.ld true 5 (.t 58))⟩, ⟨(some 16), none, (.alloc [(.str []), (.str []), (.int .i64 0), (.int .i64 0), (.int .i64 0)])⟩, ⟨none, none, (.sto 5 (.t 16) (.t 59))⟩]) (.seq (.seq (.ops [⟨(some 60), none, (.fld 4 (.t 16))⟩, ⟨(some 61), none, (.ld false 1 (.t 60))⟩, ⟨(some 62), none, (.bin .eql (.t 61) (.c (.int .i64 2)))⟩]) (.cond (.t 62) (.seq (.ops [⟨(some 12), none, (.mv (.c .e0))⟩, ⟨(some 13), none, (.mv (.c (.int .i64 27)))⟩]) .ret) .skip)) (.seq (.seq (.ops [⟨(some 63), none, (.fld 4 (.t 16))⟩, ⟨(some 64), none, (.ld false 1 (.t 63))⟩, ⟨(some 65), none, (.bin .neq (.t 64) (.c (.int .i64 1)))⟩]) (.cond (.t 65) (.ops [⟨(some 66), none, (.mv (.t 4))⟩, ⟨(some 67), none, (.fld 2 (.t 16))⟩, ⟨none, none, (.sto 1 (.t 67) (.t 66))⟩]) .skip)) (.seq (.ops [⟨(some 68), none, (.fld 4 (.t 16))⟩, ⟨none, none, (.sto 1 (.t 68) (.c (.int .i64 1)))⟩]) (.seq (.ops [⟨(some 69), none, (.mv (.t 5))⟩, ⟨(some 70), none, (.fld 3 (.t 16))⟩, ⟨none, none, (.sto 1 (.t 70) (.t 69))⟩]) (.seq (.ops [⟨(some 71), none, (.mv (.t 0))⟩, ⟨(some 72), none, (.mv (.t 15))⟩, ⟨(some 73), none, (.ld true 5 (.t 16))⟩, ⟨(some 74), none, (.call false 38 [(.t 71), (.t 72), (.t 73)])⟩, ⟨(some 12), none, (.mv (.t 74))⟩, ⟨(some 13), none, (.mv (.c (.int .i64 0)))⟩]) .ret))))))))))))
theorem tr24 : Try.f24.body.bind (trCode Try.prog) = some (strip ac24) := by kernel_rfl
theorem spec24 (l : List Md) (own u v : List UInt8) (size now : Int) (hb : l.length ≤ 1000) : Spec Try.prog 24 [.fz (.sl 5 (l.map encMd)), .fz (.str own), .fz (.str u), .fz (.str v), .fz (.int .i64 size), .fz (.int .i64 now)] (.fz (.tup [.sl 5 ((fetchR l own u v size now).1.map encMd), .int .i64 (fetchR l own u v size now).2])) := by
  refine spec_at (n := 69) (ars := [(.t 12), (.t 13)]) (ac := ac24) Try.func24 (by kernel_rfl) (by kernel_rfl) tr24 (by kernel_rfl) ?_
  unfold ac24
  rcases place_cases l u v 0 with ⟨hp, hf⟩ | ⟨pre, x, rest, he, hp, hf, hu, hsv, hnm⟩
  · skip
    iterate 60 (all_goals (try (first
      | ((with_reducible refine of_kSpec ?_); refine call_fz (spec14 l) rfl ?_)
      | ((with_reducible refine of_kSpec ?_); refine call_fz (spec37 u v) rfl ?_)
      | ((with_reducible refine of_kSpec ?_); refine call_fz (spec28 l u v) rfl ?_)
      | ((with_reducible refine of_kSpec ?_); refine call_subo (ds' := [.sl 5 (l.map encMd), .agg (encMd ⟨u, v, size, now, 1⟩)]) (spec34 l ⟨u, v, size, now, 1⟩ hb) rfl ?_ ?_
         · simp -implicitDefEqProofs only [SD, SF, SL, e_nf, reduceCtorEq, implies_true, ↓reduceIte, Nat.reduceEqDiff, Nat.reduceAdd, Nat.reduceMul, Nat.reduceSub, Nat.reduceLeDiff, Nat.reduceLT, Int.reduceLT, Int.reduceLE, Int.reduceEq, Int.reduceToNat, Int.reduceAdd, Int.reduceSub, Int.reduceNeg, Int.reduceBEq, Int.reduceBNe, Nat.reduceBEq, Int.cast_ofNat_Int, decide_true, decide_false, ne_eq, eq_self_iff_true, beq_eq_false_iff_ne, bne_iff_ne, List.replicate, encMd, toQ, toP, *]
           done)
      | ((with_reducible refine of_kSpec ?_); refine call_subo (ds' := [.sl 5 (l.map encMd), .int .i64 pre.length, .agg (encMd ⟨x.server, x.name, x.size, now, 1⟩)]) (spec38 l pre.length ⟨x.server, x.name, x.size, now, 1⟩ hlt2 hb) rfl ?_ ?_
         · simp -implicitDefEqProofs only [SD, SF, SL, e_nf, reduceCtorEq, implies_true, ↓reduceIte, Nat.reduceEqDiff, Nat.reduceAdd, Nat.reduceMul, Nat.reduceSub, Nat.reduceLeDiff, Nat.reduceLT, Int.reduceLT, Int.reduceLE, Int.reduceEq, Int.reduceToNat, Int.reduceAdd, Int.reduceSub, Int.reduceNeg, Int.reduceBEq, Int.reduceBNe, Nat.reduceBEq, Int.cast_ofNat_Int, decide_true, decide_false, ne_eq, eq_self_iff_true, beq_eq_false_iff_ne, bne_iff_ne, List.replicate, encMd, toQ, toP, *]
           done)
      | ((with_reducible refine of_kSpec ?_); refine call_subo (ds' := [.sl 5 (l.map encMd), .int .i64 pre.length, .agg (encMd ⟨x.server, x.name, size, now, 1⟩)]) (spec38 l pre.length ⟨x.server, x.name, size, now, 1⟩ hlt2 hb) rfl ?_ ?_
         · simp -implicitDefEqProofs only [SD, SF, SL, e_nf, reduceCtorEq, implies_true, ↓reduceIte, Nat.reduceEqDiff, Nat.reduceAdd, Nat.reduceMul, Nat.reduceSub, Nat.reduceLeDiff, Nat.reduceLT, Int.reduceLT, Int.reduceLE, Int.reduceEq, Int.reduceToNat, Int.reduceAdd, Int.reduceSub, Int.reduceNeg, Int.reduceBEq, Int.reduceBNe, Nat.reduceBEq, Int.cast_ofNat_Int, decide_true, decide_false, ne_eq, eq_self_iff_true, beq_eq_false_iff_ne, bne_iff_ne, List.replicate, encMd, toQ, toP, *]
           done)
      | (with_reducible refine ite_in (fun _ => ?_) (fun _ => ?_))
      | (with_reducible refine ⟨fun _ => ?_, fun _ => ?_⟩)
      | (with_reducible refine And.intro ?_ ?_)
      | (with_reducible intro _)
      | (with_reducible exact is_in _)
      | (simp -implicitDefEqProofs only [SD, SF, SL, e_nf, reduceCtorEq, implies_true, ↓reduceIte, Nat.reduceEqDiff, Nat.reduceAdd, Nat.reduceMul, Nat.reduceSub, Nat.reduceLeDiff, Nat.reduceLT, Int.reduceLT, Int.reduceLE, Int.reduceEq, Int.reduceToNat, Int.reduceAdd, Int.reduceSub, Int.reduceNeg, Int.reduceBEq, Int.reduceBNe, Nat.reduceBEq, Int.cast_ofNat_Int, decide_true, decide_false, ne_eq, eq_self_iff_true, beq_eq_false_iff_ne, bne_iff_ne, List.replicate, encMd, toP, *]))))
    all_goals (first
      | (simp_all [fetchR, badN]; done)
      | (have hq : fetchR l own u v size now = ([], 2) := by
           simp only [fetchR, badN]
           simp_all
           try omega
         simp_all; done)
      | (have hq : fetchR l own u v size now = (insL l ⟨u, v, size, now, 1⟩, 0) := by
           have : ¬ badN size now := by simp only [badN]; omega
           simp_all [fetchR]
         rw [hq]
         first | exact .inl rfl | rfl | (simp_all; done))
      | (have hq : fetchR l own u v size now = (pre ++ toP size now x :: rest, 0) := by
           have : ¬ badN size now := by simp only [badN]; omega
           simp_all [fetchR]
         rw [hq, set_at he.out]
         first | exact .inl rfl | (simp_all [encMd, toP]; done))
      | (have : ¬ badN size now := by simp only [badN]; omega
         simp_all [fetchR]; done))
  · rw [Nat.zero_add] at hp
    have hx := cutD encMd he
    simp only [encMd] at hx
    have hlt := cut_lt he
    have hlt2 := cut_lt' he
    have hge : ¬ ((pre.length : Int) < 0) := by omega
    obtain ⟨hg1, hs1, hl1⟩ := set_facts he
    replace he := Hd.mk he
    replace hsv := Hd.mk hsv
    replace hnm := Hd.mk hnm
    iterate 60 (all_goals (try (first
      | ((with_reducible refine of_kSpec ?_); refine call_fz (spec14 l) rfl ?_)
      | ((with_reducible refine of_kSpec ?_); refine call_fz (spec37 u v) rfl ?_)
      | ((with_reducible refine of_kSpec ?_); refine call_fz (spec28 l u v) rfl ?_)
      | ((with_reducible refine of_kSpec ?_); refine call_subo (ds' := [.sl 5 (l.map encMd), .agg (encMd ⟨u, v, size, now, 1⟩)]) (spec34 l ⟨u, v, size, now, 1⟩ hb) rfl ?_ ?_
         · simp -implicitDefEqProofs only [SD, SF, SL, e_nf, reduceCtorEq, implies_true, ↓reduceIte, Nat.reduceEqDiff, Nat.reduceAdd, Nat.reduceMul, Nat.reduceSub, Nat.reduceLeDiff, Nat.reduceLT, Int.reduceLT, Int.reduceLE, Int.reduceEq, Int.reduceToNat, Int.reduceAdd, Int.reduceSub, Int.reduceNeg, Int.reduceBEq, Int.reduceBNe, Nat.reduceBEq, Int.cast_ofNat_Int, decide_true, decide_false, ne_eq, eq_self_iff_true, beq_eq_false_iff_ne, bne_iff_ne, List.replicate, encMd, toQ, toP, *]
           done)
      | ((with_reducible refine of_kSpec ?_); refine call_subo (ds' := [.sl 5 (l.map encMd), .int .i64 pre.length, .agg (encMd ⟨x.server, x.name, x.size, now, 1⟩)]) (spec38 l pre.length ⟨x.server, x.name, x.size, now, 1⟩ hlt2 hb) rfl ?_ ?_
         · simp -implicitDefEqProofs only [SD, SF, SL, e_nf, reduceCtorEq, implies_true, ↓reduceIte, Nat.reduceEqDiff, Nat.reduceAdd, Nat.reduceMul, Nat.reduceSub, Nat.reduceLeDiff, Nat.reduceLT, Int.reduceLT, Int.reduceLE, Int.reduceEq, Int.reduceToNat, Int.reduceAdd, Int.reduceSub, Int.reduceNeg, Int.reduceBEq, Int.reduceBNe, Nat.reduceBEq, Int.cast_ofNat_Int, decide_true, decide_false, ne_eq, eq_self_iff_true, beq_eq_false_iff_ne, bne_iff_ne, List.replicate, encMd, toQ, toP, *]
           done)
      | ((with_reducible refine of_kSpec ?_); refine call_subo (ds' := [.sl 5 (l.map encMd), .int .i64 pre.length, .agg (encMd ⟨x.server, x.name, size, now, 1⟩)]) (spec38 l pre.length ⟨x.server, x.name, size, now, 1⟩ hlt2 hb) rfl ?_ ?_
         · simp -implicitDefEqProofs only [SD, SF, SL, e_nf, reduceCtorEq, implies_true, ↓reduceIte, Nat.reduceEqDiff, Nat.reduceAdd, Nat.reduceMul, Nat.reduceSub, Nat.reduceLeDiff, Nat.reduceLT, Int.reduceLT, Int.reduceLE, Int.reduceEq, Int.reduceToNat, Int.reduceAdd, Int.reduceSub, Int.reduceNeg, Int.reduceBEq, Int.reduceBNe, Nat.reduceBEq, Int.cast_ofNat_Int, decide_true, decide_false, ne_eq, eq_self_iff_true, beq_eq_false_iff_ne, bne_iff_ne, List.replicate, encMd, toQ, toP, *]
           done)
      | (with_reducible refine ite_in (fun _ => ?_) (fun _ => ?_))
      | (with_reducible refine ⟨fun _ => ?_, fun _ => ?_⟩)
      | (with_reducible refine And.intro ?_ ?_)
      | (with_reducible intro _)
      | (with_reducible exact is_in _)
      | (simp -implicitDefEqProofs only [SD, SF, SL, e_nf, reduceCtorEq, implies_true, ↓reduceIte, Nat.reduceEqDiff, Nat.reduceAdd, Nat.reduceMul, Nat.reduceSub, Nat.reduceLeDiff, Nat.reduceLT, Int.reduceLT, Int.reduceLE, Int.reduceEq, Int.reduceToNat, Int.reduceAdd, Int.reduceSub, Int.reduceNeg, Int.reduceBEq, Int.reduceBNe, Nat.reduceBEq, Int.cast_ofNat_Int, decide_true, decide_false, ne_eq, eq_self_iff_true, beq_eq_false_iff_ne, bne_iff_ne, List.replicate, encMd, toP, *]))))
    all_goals (first
      | (simp_all [fetchR, badN]; done)
      | (have hq : fetchR l own u v size now = ([], 2) := by
           simp only [fetchR, badN]
           simp_all
           try omega
         simp_all; done)
      | (have hq : fetchR l own u v size now = (insL l ⟨u, v, size, now, 1⟩, 0) := by
           have : ¬ badN size now := by simp only [badN]; omega
           simp_all [fetchR]
         rw [hq]
         first | exact .inl rfl | rfl | (simp_all; done))
      | (have hq : fetchR l own u v size now = (pre ++ toP size now x :: rest, 0) := by
           have : ¬ badN size now := by simp only [badN]; omega
           simp_all [fetchR]
         rw [hq, set_at he.out]
         first | exact .inl rfl | (simp_all [encMd, toP]; done))
      | (have : ¬ badN size now := by simp only [badN]; omega
         simp_all [fetchR]; done))


end Go.Proofs.Ytfcjmblhcakhaaa.E
