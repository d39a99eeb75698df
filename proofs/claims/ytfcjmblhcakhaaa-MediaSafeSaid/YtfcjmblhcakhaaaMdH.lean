/-
  MdH: walks of functions of the program at data level.
-/
import Derived.Test.YtfcjmblhcakhaaaProg
import Derived.Test.YtfcjmblhcakhaaaEngZ
import Derived.Test.YtfcjmblhcakhaaaMdG
import Derived.KernelRfl
set_option linter.unusedVariables false
set_option linter.unusedSimpArgs false
namespace Go.Proofs.Ytfcjmblhcakhaaa.E
open Go
set_option maxHeartbeats 4000000
set_option maxRecDepth 100000
set_option linter.unusedSimpArgs false
set_option linter.unusedVariables false
attribute [local congr] c_wp c_ops c_op c_opS c_run c_runS c_dt c_seq c_blk c_loop c_S c_put c_bind c_mv c_pick c_nt c_ng c_bin c_binI c_binS c_beq c_B c_eqa c_hd c_cells c_blkK c_box c_vec c_mp c_mkm c_mput c_mlk c_mrm c_take c_ld c_ldF c_cellsK c_st c_fld c_fldv c_ix c_ixp c_ixv c_ixs c_sub c_subs c_len c_lens c_src c_dst c_ow c_app c_ext c_mm c_conv c_str c_isn c_fill c_rows c_boxo c_frz c_frzO c_frzA c_frzV c_spec c_specO c_opsP c_opP c_runP c_specP c_Z c_qretP c_fz c_fn c_gv c_cond c_res1 c_resL c_ret c_qret c_ite c_unr c_nx c_bk c_cut c_is
attribute [local irreducible] dwp
def ac21 : AC := (.seq (.ops [⟨(some 6), none, (.mv (.c .e0))⟩]) (.seq (.ops [⟨(some 9), none, (.mv (.t 0))⟩, ⟨(some 10), none, (.call false 35 [(.t 9)])⟩, ⟨(some 7), none, (.mv (.t 10))⟩]) (.seq (.seq (.ops [⟨(some 11), none, (.mv (.t 0))⟩, ⟨(some 12), none, (.call false 13 [(.t 11)])⟩, ⟨(some 13), none, (.bin .neq (.t 12) (.c (.int .i64 0)))⟩, ⟨(some 14), none, (.mv (.t 13))⟩, ⟨(some 15), (some (14, false)), (.mv (.t 1))⟩, ⟨(some 16), (some (14, false)), (.mv (.t 2))⟩, ⟨(some 17), (some (14, false)), (.call false 36 [(.t 15), (.t 16)])⟩, ⟨(some 18), (some (14, false)), (.nt (.t 17))⟩, ⟨(some 19), none, (.pick (.t 14) (.c (.bool true)) (.t 18))⟩]) (.cond (.t 19) (.seq (.ops [⟨(some 20), none, (.mv (.t 7))⟩, ⟨(some 6), none, (.mv (.t 20))⟩]) .ret) .skip)) (.seq (.ops [⟨(some 21), none, (.mv (.t 0))⟩, ⟨(some 22), none, (.mv (.t 1))⟩, ⟨(some 23), none, (.mv (.t 2))⟩, ⟨(some 24), none, (.call false 27 [(.t 21), (.t 22), (.t 23)])⟩, ⟨(some 8), none, (.mv (.t 24))⟩]) (.seq (.seq (.ops [⟨(some 25), none, (.mv (.t 8))⟩, ⟨(some 26), none, (.bin .lss (.t 25) (.c (.int .i64 0)))⟩]) (.cond (.t 26) (.seq (.ops [⟨(some 27), none, (.mv (.t 0))⟩, ⟨(some 28), none, (.mv (.t 1))⟩, ⟨(some 29), none, (.mv (.t 2))⟩, ⟨(some 30), none, (.build [(.str []), (.str []), (.int .i64 0), (.int .i64 0), (.int .i64 0)] [(0, (1, (.t 28))), (1, (1, (.t 29))), (4, (1, (.c (.int .i64 2))))])⟩, ⟨(some 31), none, (.call false 33 [(.t 27), (.t 30)])⟩, ⟨(some 6), none, (.mv (.t 31))⟩]) .ret) .skip)) (.seq (.ops [⟨(some 32), none, (.mv (.t 7))⟩, ⟨(some 33), none, (.mv (.t 8))⟩, ⟨(some 34), none, (.ix 5 (.t 32) (.t 33))⟩, ⟨(some 35), none, (.fld 4 (.t 34))⟩, ⟨none, none, (.sto 1 (.t 35) (.c (.int .i64 2)))⟩]) (.seq (.ops [⟨(some 36), none, (.mv (.t 7))⟩, ⟨(some 6), none, (.mv (.t 36))⟩]) .ret)))))))
theorem tr21 : Try.f21.body.bind (trCode Try.prog) = some (strip ac21) := by kernel_rfl
theorem spec21 (l : List Md) (u v : List UInt8) (hb : l.length ≤ 1000) : Spec Try.prog 21 [.fz (.sl 5 (l.map encMd)), .fz (.str u), .fz (.str v)] (.fz (.sl 5 ((quarR l u v).map encMd))) := by
  refine spec_at (n := 34) (ars := [(.t 6)]) (ac := ac21) Try.func21 (by kernel_rfl) (by kernel_rfl) tr21 (by kernel_rfl) ?_
  unfold ac21
  rcases place_cases l u v 0 with ⟨hp, hf⟩ | ⟨pre, x, rest, he, hp, hf, hu, hsv, hnm⟩
  · skip
    iterate 40 (all_goals (try (first
      | ((with_reducible refine of_kSpec ?_); refine call_fz (spec13 l) rfl ?_)
      | ((with_reducible refine of_kSpec ?_); refine call_fz (spec36 u v) rfl ?_)
      | ((with_reducible refine of_kSpec ?_); refine call_fz (spec27 l u v) rfl ?_)
      | ((with_reducible refine of_kSpec ?_); refine call_ow (spec35 l hb) rfl ?_)
      | ((with_reducible refine of_kSpec ?_); refine call_subo (ds' := [.sl 5 (l.map encMd), .agg (encMd ⟨u, v, 0, 0, 2⟩)]) (spec33 l ⟨u, v, 0, 0, 2⟩ hb) rfl ?_ ?_
         · simp -implicitDefEqProofs only [SD, SF, SL, e_nf, reduceCtorEq, implies_true, ↓reduceIte, Nat.reduceEqDiff, Nat.reduceAdd, Nat.reduceMul, Nat.reduceSub, Nat.reduceLeDiff, Nat.reduceLT, Int.reduceLT, Int.reduceLE, Int.reduceEq, Int.reduceToNat, Int.reduceAdd, Int.reduceSub, Int.reduceNeg, Int.reduceBEq, Int.reduceBNe, Nat.reduceBEq, Int.cast_ofNat_Int, decide_true, decide_false, ne_eq, eq_self_iff_true, beq_eq_false_iff_ne, bne_iff_ne, List.replicate, encMd, toQ, toP, *]
           done)
      | (with_reducible refine ite_in (fun _ => ?_) (fun _ => ?_))
      | (with_reducible refine ⟨fun _ => ?_, fun _ => ?_⟩)
      | (with_reducible refine And.intro ?_ ?_)
      | (with_reducible intro _)
      | (with_reducible exact is_in _)
      | (simp -implicitDefEqProofs only [SD, SF, SL, e_nf, reduceCtorEq, implies_true, ↓reduceIte, Nat.reduceEqDiff, Nat.reduceAdd, Nat.reduceMul, Nat.reduceSub, Nat.reduceLeDiff, Nat.reduceLT, Int.reduceLT, Int.reduceLE, Int.reduceEq, Int.reduceToNat, Int.reduceAdd, Int.reduceSub, Int.reduceNeg, Int.reduceBEq, Int.reduceBNe, Nat.reduceBEq, Int.cast_ofNat_Int, decide_true, decide_false, ne_eq, eq_self_iff_true, beq_eq_false_iff_ne, bne_iff_ne, List.replicate, encMd, toQ, *]))))
    all_goals (first
      | (simp_all [quarR]; done)
      | (have hq : quarR l u v = pre ++ toQ x :: rest := by simp_all [quarR]
         rw [hq, set_at he.out]
         first | exact .inl rfl | rfl | (simp [encMd, toQ]; done))
      | (have hq : quarR l u v = insL l ⟨u, v, 0, 0, 2⟩ := by simp_all [quarR]
         rw [hq]
         first | exact .inl rfl | rfl))
  · rw [Nat.zero_add] at hp
    have hx := cutD encMd he
    simp only [encMd] at hx
    have hlt := cut_lt he
    have hlt2 := cut_lt' he
    have hge : ¬ ((pre.length : Int) < 0) := by omega
    obtain ⟨hg1, hs1, hl1⟩ := set_facts he
    replace he := Hd.mk he
    replace hsv := Hd.mk hsv
    replace hnm := Hd.mk hnm
    iterate 40 (all_goals (try (first
      | ((with_reducible refine of_kSpec ?_); refine call_fz (spec13 l) rfl ?_)
      | ((with_reducible refine of_kSpec ?_); refine call_fz (spec36 u v) rfl ?_)
      | ((with_reducible refine of_kSpec ?_); refine call_fz (spec27 l u v) rfl ?_)
      | ((with_reducible refine of_kSpec ?_); refine call_ow (spec35 l hb) rfl ?_)
      | ((with_reducible refine of_kSpec ?_); refine call_subo (ds' := [.sl 5 (l.map encMd), .agg (encMd ⟨u, v, 0, 0, 2⟩)]) (spec33 l ⟨u, v, 0, 0, 2⟩ hb) rfl ?_ ?_
         · simp -implicitDefEqProofs only [SD, SF, SL, e_nf, reduceCtorEq, implies_true, ↓reduceIte, Nat.reduceEqDiff, Nat.reduceAdd, Nat.reduceMul, Nat.reduceSub, Nat.reduceLeDiff, Nat.reduceLT, Int.reduceLT, Int.reduceLE, Int.reduceEq, Int.reduceToNat, Int.reduceAdd, Int.reduceSub, Int.reduceNeg, Int.reduceBEq, Int.reduceBNe, Nat.reduceBEq, Int.cast_ofNat_Int, decide_true, decide_false, ne_eq, eq_self_iff_true, beq_eq_false_iff_ne, bne_iff_ne, List.replicate, encMd, toQ, toP, *]
           done)
      | (with_reducible refine ite_in (fun _ => ?_) (fun _ => ?_))
      | (with_reducible refine ⟨fun _ => ?_, fun _ => ?_⟩)
      | (with_reducible refine And.intro ?_ ?_)
      | (with_reducible intro _)
      | (with_reducible exact is_in _)
      | (simp -implicitDefEqProofs only [SD, SF, SL, e_nf, reduceCtorEq, implies_true, ↓reduceIte, Nat.reduceEqDiff, Nat.reduceAdd, Nat.reduceMul, Nat.reduceSub, Nat.reduceLeDiff, Nat.reduceLT, Int.reduceLT, Int.reduceLE, Int.reduceEq, Int.reduceToNat, Int.reduceAdd, Int.reduceSub, Int.reduceNeg, Int.reduceBEq, Int.reduceBNe, Nat.reduceBEq, Int.cast_ofNat_Int, decide_true, decide_false, ne_eq, eq_self_iff_true, beq_eq_false_iff_ne, bne_iff_ne, List.replicate, encMd, toQ, *]))))
    all_goals (first
      | (simp_all [quarR]; done)
      | (have hq : quarR l u v = pre ++ toQ x :: rest := by simp_all [quarR]
         rw [hq, set_at he.out]
         first | exact .inl rfl | rfl | (simp [encMd, toQ]; done))
      | (have hq : quarR l u v = insL l ⟨u, v, 0, 0, 2⟩ := by simp_all [quarR]
         rw [hq]
         first | exact .inl rfl | rfl))

def ac22 : AC := (.seq (.ops [⟨(some 6), none, (.mv (.c .e0))⟩]) (.seq (.seq (.ops [⟨(some 9), none, (.mv (.t 0))⟩, ⟨(some 10), none, (.call false 14 [(.t 9)])⟩, ⟨(some 11), none, (.bin .neq (.t 10) (.c (.int .i64 0)))⟩, ⟨(some 12), none, (.mv (.t 11))⟩, ⟨(some 13), (some (12, false)), (.mv (.t 1))⟩, ⟨(some 14), (some (12, false)), (.mv (.t 2))⟩, ⟨(some 15), (some (12, false)), (.call false 37 [(.t 13), (.t 14)])⟩, ⟨(some 16), (some (12, false)), (.bin .neq (.t 15) (.c (.int .i64 0)))⟩, ⟨(some 17), none, (.pick (.t 12) (.c (.bool true)) (.t 16))⟩]) (.cond (.t 17) (.seq (.ops [⟨(some 18), none, (.mv (.t 0))⟩, ⟨(some 6), none, (.mv (.t 18))⟩]) .ret) .skip)) (.seq (.ops [⟨(some 19), none, (.mv (.t 0))⟩, ⟨(some 20), none, (.mv (.t 1))⟩, ⟨(some 21), none, (.mv (.t 2))⟩, ⟨(some 22), none, (.call false 28 [(.t 19), (.t 20), (.t 21)])⟩, ⟨(some 7), none, (.mv (.t 22))⟩]) (.seq (.seq (.ops [⟨(some 23), none, (.mv (.t 7))⟩, ⟨(some 24), none, (.bin .lss (.t 23) (.c (.int .i64 0)))⟩]) (.cond (.t 24) (.seq (.ops [⟨(some 25), none, (.mv (.t 0))⟩, ⟨(some 26), none, (.mv (.t 1))⟩, ⟨(some 27), none, (.mv (.t 2))⟩, ⟨(some 28), none, (.build [(.str []), (.str []), (.int .i64 0), (.int .i64 0), (.int .i64 0)] [(0, (1, (.t 26))), (1, (1, (.t 27))), (4, (1, (.c (.int .i64 2))))])⟩, ⟨(some 29), none, (.call false 34 [(.t 25), (.t 28)])⟩, ⟨(some 6), none, (.mv (.t 29))⟩]) .ret) .skip)) (.seq (.ops [⟨(some 30), none, (.mv (.t 0))⟩, ⟨(some 31), none, (.mv (.t 7))⟩, ⟨(some 32), none, (.ix 5 (.t 30) (.t 31))⟩, ⟨(some 33), none, (.ld true 5 (.t 32))⟩, ⟨(some 8), none, (.alloc [(.str []), (.str []), (.int .i64 0), (.int .i64 0), (.int .i64 0)])⟩, ⟨none, none, (.sto 5 (.t 8) (.t 33))⟩]) (.seq (.ops [⟨(some 34), none, (.fld 4 (.t 8))⟩, ⟨none, none, (.sto 1 (.t 34) (.c (.int .i64 2)))⟩]) (.seq (.ops [⟨(some 35), none, (.mv (.t 0))⟩, ⟨(some 36), none, (.mv (.t 7))⟩, ⟨(some 37), none, (.ld true 5 (.t 8))⟩, ⟨(some 38), none, (.call false 38 [(.t 35), (.t 36), (.t 37)])⟩, ⟨(some 6), none, (.mv (.t 38))⟩]) .ret)))))))
theorem tr22 : Try.f22.body.bind (trCode Try.prog) = some (strip ac22) := by kernel_rfl
theorem spec22 (l : List Md) (u v : List UInt8) (hb : l.length ≤ 1000) : Spec Try.prog 22 [.fz (.sl 5 (l.map encMd)), .fz (.str u), .fz (.str v)] (.fz (.sl 5 ((quarR l u v).map encMd))) := by
  refine spec_at (n := 36) (ars := [(.t 6)]) (ac := ac22) Try.func22 (by kernel_rfl) (by kernel_rfl) tr22 (by kernel_rfl) ?_
  unfold ac22
  rcases place_cases l u v 0 with ⟨hp, hf⟩ | ⟨pre, x, rest, he, hp, hf, hu, hsv, hnm⟩
  · skip
    iterate 40 (all_goals (try (first
      | ((with_reducible refine of_kSpec ?_); refine call_fz (spec14 l) rfl ?_)
      | ((with_reducible refine of_kSpec ?_); refine call_fz (spec37 u v) rfl ?_)
      | ((with_reducible refine of_kSpec ?_); refine call_fz (spec28 l u v) rfl ?_)
      | ((with_reducible refine of_kSpec ?_); refine call_subo (ds' := [.sl 5 (l.map encMd), .agg (encMd ⟨u, v, 0, 0, 2⟩)]) (spec34 l ⟨u, v, 0, 0, 2⟩ hb) rfl ?_ ?_
         · simp -implicitDefEqProofs only [SD, SF, SL, e_nf, reduceCtorEq, implies_true, ↓reduceIte, Nat.reduceEqDiff, Nat.reduceAdd, Nat.reduceMul, Nat.reduceSub, Nat.reduceLeDiff, Nat.reduceLT, Int.reduceLT, Int.reduceLE, Int.reduceEq, Int.reduceToNat, Int.reduceAdd, Int.reduceSub, Int.reduceNeg, Int.reduceBEq, Int.reduceBNe, Nat.reduceBEq, Int.cast_ofNat_Int, decide_true, decide_false, ne_eq, eq_self_iff_true, beq_eq_false_iff_ne, bne_iff_ne, List.replicate, encMd, toQ, toP, *]
           done)
      | ((with_reducible refine of_kSpec ?_); refine call_subo (ds' := [.sl 5 (l.map encMd), .int .i64 pre.length, .agg (encMd (toQ x))]) (spec38 l pre.length (toQ x) hlt2 hb) rfl ?_ ?_
         · simp -implicitDefEqProofs only [SD, SF, SL, e_nf, reduceCtorEq, implies_true, ↓reduceIte, Nat.reduceEqDiff, Nat.reduceAdd, Nat.reduceMul, Nat.reduceSub, Nat.reduceLeDiff, Nat.reduceLT, Int.reduceLT, Int.reduceLE, Int.reduceEq, Int.reduceToNat, Int.reduceAdd, Int.reduceSub, Int.reduceNeg, Int.reduceBEq, Int.reduceBNe, Nat.reduceBEq, Int.cast_ofNat_Int, decide_true, decide_false, ne_eq, eq_self_iff_true, beq_eq_false_iff_ne, bne_iff_ne, List.replicate, encMd, toQ, toP, *]
           done)
      | (with_reducible refine ite_in (fun _ => ?_) (fun _ => ?_))
      | (with_reducible refine ⟨fun _ => ?_, fun _ => ?_⟩)
      | (with_reducible refine And.intro ?_ ?_)
      | (with_reducible intro _)
      | (with_reducible exact is_in _)
      | (simp -implicitDefEqProofs only [SD, SF, SL, e_nf, reduceCtorEq, implies_true, ↓reduceIte, Nat.reduceEqDiff, Nat.reduceAdd, Nat.reduceMul, Nat.reduceSub, Nat.reduceLeDiff, Nat.reduceLT, Int.reduceLT, Int.reduceLE, Int.reduceEq, Int.reduceToNat, Int.reduceAdd, Int.reduceSub, Int.reduceNeg, Int.reduceBEq, Int.reduceBNe, Nat.reduceBEq, Int.cast_ofNat_Int, decide_true, decide_false, ne_eq, eq_self_iff_true, beq_eq_false_iff_ne, bne_iff_ne, List.replicate, encMd, toQ, *]))))
    all_goals (first
      | (simp_all [quarR]; done)
      | (have hq : quarR l u v = pre ++ toQ x :: rest := by simp_all [quarR]
         rw [hq, set_at he.out]
         first | exact .inl rfl | rfl | (simp [encMd, toQ]; done))
      | (have hq : quarR l u v = insL l ⟨u, v, 0, 0, 2⟩ := by simp_all [quarR]
         rw [hq]
         first | exact .inl rfl | rfl))
  · rw [Nat.zero_add] at hp
    have hx := cutD encMd he
    simp only [encMd] at hx
    have hlt := cut_lt he
    have hlt2 := cut_lt' he
    have hge : ¬ ((pre.length : Int) < 0) := by omega
    obtain ⟨hg1, hs1, hl1⟩ := set_facts he
    replace he := Hd.mk he
    replace hsv := Hd.mk hsv
    replace hnm := Hd.mk hnm
    iterate 40 (all_goals (try (first
      | ((with_reducible refine of_kSpec ?_); refine call_fz (spec14 l) rfl ?_)
      | ((with_reducible refine of_kSpec ?_); refine call_fz (spec37 u v) rfl ?_)
      | ((with_reducible refine of_kSpec ?_); refine call_fz (spec28 l u v) rfl ?_)
      | ((with_reducible refine of_kSpec ?_); refine call_subo (ds' := [.sl 5 (l.map encMd), .agg (encMd ⟨u, v, 0, 0, 2⟩)]) (spec34 l ⟨u, v, 0, 0, 2⟩ hb) rfl ?_ ?_
         · simp -implicitDefEqProofs only [SD, SF, SL, e_nf, reduceCtorEq, implies_true, ↓reduceIte, Nat.reduceEqDiff, Nat.reduceAdd, Nat.reduceMul, Nat.reduceSub, Nat.reduceLeDiff, Nat.reduceLT, Int.reduceLT, Int.reduceLE, Int.reduceEq, Int.reduceToNat, Int.reduceAdd, Int.reduceSub, Int.reduceNeg, Int.reduceBEq, Int.reduceBNe, Nat.reduceBEq, Int.cast_ofNat_Int, decide_true, decide_false, ne_eq, eq_self_iff_true, beq_eq_false_iff_ne, bne_iff_ne, List.replicate, encMd, toQ, toP, *]
           done)
      | ((with_reducible refine of_kSpec ?_); refine call_subo (ds' := [.sl 5 (l.map encMd), .int .i64 pre.length, .agg (encMd (toQ x))]) (spec38 l pre.length (toQ x) hlt2 hb) rfl ?_ ?_
         · simp -implicitDefEqProofs only [SD, SF, SL, e_nf, reduceCtorEq, implies_true, ↓reduceIte, Nat.reduceEqDiff, Nat.reduceAdd, Nat.reduceMul, Nat.reduceSub, Nat.reduceLeDiff, Nat.reduceLT, Int.reduceLT, Int.reduceLE, Int.reduceEq, Int.reduceToNat, Int.reduceAdd, Int.reduceSub, Int.reduceNeg, Int.reduceBEq, Int.reduceBNe, Nat.reduceBEq, Int.cast_ofNat_Int, decide_true, decide_false, ne_eq, eq_self_iff_true, beq_eq_false_iff_ne, bne_iff_ne, List.replicate, encMd, toQ, toP, *]
           done)
      | (with_reducible refine ite_in (fun _ => ?_) (fun _ => ?_))
      | (with_reducible refine ⟨fun _ => ?_, fun _ => ?_⟩)
      | (with_reducible refine And.intro ?_ ?_)
      | (with_reducible intro _)
      | (with_reducible exact is_in _)
      | (simp -implicitDefEqProofs only [SD, SF, SL, e_nf, reduceCtorEq, implies_true, ↓reduceIte, Nat.reduceEqDiff, Nat.reduceAdd, Nat.reduceMul, Nat.reduceSub, Nat.reduceLeDiff, Nat.reduceLT, Int.reduceLT, Int.reduceLE, Int.reduceEq, Int.reduceToNat, Int.reduceAdd, Int.reduceSub, Int.reduceNeg, Int.reduceBEq, Int.reduceBNe, Nat.reduceBEq, Int.cast_ofNat_Int, decide_true, decide_false, ne_eq, eq_self_iff_true, beq_eq_false_iff_ne, bne_iff_ne, List.replicate, encMd, toQ, *]))))
    all_goals (first
      | (simp_all [quarR]; done)
      | (have hq : quarR l u v = pre ++ toQ x :: rest := by simp_all [quarR]
         rw [hq, set_at he.out]
         first | exact .inl rfl | rfl | (simp [encMd, toQ]; done))
      | (have hq : quarR l u v = insL l ⟨u, v, 0, 0, 2⟩ := by simp_all [quarR]
         rw [hq]
         first | exact .inl rfl | rfl))


end Go.Proofs.Ytfcjmblhcakhaaa.E
