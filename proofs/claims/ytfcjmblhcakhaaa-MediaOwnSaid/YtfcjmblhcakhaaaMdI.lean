/-
  MdI: walks of functions of the program at data level.
-/
import Derived.Test.YtfcjmblhcakhaaaProg
import Derived.Test.YtfcjmblhcakhaaaEngZ
import Derived.Test.YtfcjmblhcakhaaaMdH
import Derived.KernelRfl
set_option linter.unusedVariables false
set_option linter.unusedSimpArgs false
namespace Go.Proofs.Ytfcjmblhcakhaaa.E
open Go
set_option maxHeartbeats 4000000
set_option maxRecDepth 100000
set_option linter.unusedSimpArgs false
set_option linter.unusedVariables false
attribute [local congr] c_wp c_ops c_op c_opS c_run c_runS c_dt c_seq c_blk c_loop c_S c_put c_bind c_mv c_pick c_nt c_ng c_bin c_binI c_binS c_beq c_B c_eqa c_hd c_cells c_blkK c_box c_vec c_mp c_mkm c_mput c_mlk c_mrm c_take c_ld c_ldF c_cellsK c_st c_fld c_fldv c_ix c_ixp c_ixv c_ixs c_sub c_subs c_len c_lens c_src c_dst c_ow c_app c_ext c_mm c_conv c_str c_isn c_fill c_rows c_boxo c_frz c_frzO c_frzA c_frzV c_spec c_specO c_opsP c_opP c_runP c_specP c_Z c_qretP c_fz c_fn c_gv c_cond c_res1 c_resL c_ret c_qret c_ite c_unr c_nx c_bk c_cut c_is
attribute [local irreducible] dwp
def ac18 : AC := (.seq (.ops [⟨(some 3), none, (.box (.t 1))⟩, ⟨(some 4), none, (.mv (.c .e0))⟩, ⟨(some 5), none, (.mv (.c (.int .i64 0)))⟩]) (.seq (.seq (.ops [⟨(some 8), none, (.mv (.t 0))⟩, ⟨(some 9), none, (.call false 13 [(.t 8)])⟩, ⟨(some 6), none, (.mv (.t 9))⟩]) (.seq (.ops [⟨(some 10), none, (.mv (.t 6))⟩, ⟨(some 11), none, (.bin .neq (.t 10) (.c (.int .i64 0)))⟩]) (.cond (.t 11) (.seq (.ops [⟨(some 12), none, (.mv (.t 6))⟩, ⟨(some 4), none, (.mv (.c .e0))⟩, ⟨(some 5), none, (.mv (.t 12))⟩]) .ret) .skip))) (.seq (.seq (.ops [⟨(some 13), none, (.ld true 5 (.t 3))⟩, ⟨(some 14), none, (.call false 29 [(.t 13)])⟩, ⟨(some 7), none, (.mv (.t 14))⟩]) (.seq (.ops [⟨(some 15), none, (.mv (.t 7))⟩, ⟨(some 16), none, (.bin .neq (.t 15) (.c (.int .i64 0)))⟩]) (.cond (.t 16) (.seq (.ops [⟨(some 17), none, (.mv (.t 7))⟩, ⟨(some 4), none, (.mv (.c .e0))⟩, ⟨(some 5), none, (.mv (.t 17))⟩]) .ret) .skip))) (.seq (.seq (.ops [⟨(some 18), none, (.mv (.t 0))⟩, ⟨(some 19), none, (.fld 0 (.t 3))⟩, ⟨(some 20), none, (.ld false 1 (.t 19))⟩, ⟨(some 21), none, (.fld 1 (.t 3))⟩, ⟨(some 22), none, (.ld false 1 (.t 21))⟩, ⟨(some 23), none, (.call false 27 [(.t 18), (.t 20), (.t 22)])⟩, ⟨(some 24), none, (.bin .geq (.t 23) (.c (.int .i64 0)))⟩]) (.cond (.t 24) (.seq (.ops [⟨(some 4), none, (.mv (.c .e0))⟩, ⟨(some 5), none, (.mv (.c (.int .i64 4)))⟩]) .ret) .skip)) (.seq (.ops [⟨(some 25), none, (.mv (.t 0))⟩, ⟨(some 26), none, (.ld true 5 (.t 3))⟩, ⟨(some 27), none, (.call false 33 [(.t 25), (.t 26)])⟩, ⟨(some 4), none, (.mv (.t 27))⟩, ⟨(some 5), none, (.mv (.c (.int .i64 0)))⟩]) .ret)))))
theorem tr18 : Try.f18.body.bind (trCode Try.prog) = some (strip ac18) := by kernel_rfl
theorem spec18 (l : List Md) (m : Md) (hb : l.length ≤ 1000) : Spec Try.prog 18 [.fz (.sl 5 (l.map encMd)), .fz (.agg (encMd m))] (.fz (.tup [.sl 5 ((addR l m).1.map encMd), .int .i64 (addR l m).2])) := by
  refine spec_at (n := 26) (ars := [(.t 4), (.t 5)]) (ac := ac18) Try.func18 (by kernel_rfl) (by kernel_rfl) tr18 (by kernel_rfl) ?_
  unfold ac18
  rcases place_cases l m.server m.name 0 with ⟨hp, hf⟩ | ⟨pre, x, rest, he, hp, hf, hu, hsv, hnm⟩
  · skip
    iterate 40 (all_goals (try (first
      | ((with_reducible refine of_kSpec ?_); refine call_fz (spec13 l) rfl ?_)
      | ((with_reducible refine of_kSpec ?_)
         refine call_sub (ds' := [.agg (encMd m)]) (spec29 m) rfl ?_ ?_
         · simp -implicitDefEqProofs only [SD, SF, SL, e_nf, reduceCtorEq, implies_true, ↓reduceIte, Nat.reduceEqDiff, Nat.reduceAdd, Nat.reduceMul, Nat.reduceSub, Nat.reduceLeDiff, Nat.reduceLT, Int.reduceLT, Int.reduceLE, Int.reduceEq, Int.reduceToNat, Int.reduceAdd, Int.reduceSub, Int.reduceNeg, Int.reduceBEq, Int.reduceBNe, Nat.reduceBEq, Int.cast_ofNat_Int, decide_true, decide_false, ne_eq, eq_self_iff_true, beq_eq_false_iff_ne, bne_iff_ne, List.replicate, encMd, *]
           done)
      | ((with_reducible refine of_kSpec ?_); refine call_fz (spec27 l m.server m.name) rfl ?_)
      | ((with_reducible refine of_kSpec ?_); refine call_subo (ds' := [.sl 5 (l.map encMd), .agg (encMd m)]) (spec33 l m hb) rfl ?_ ?_
         · simp -implicitDefEqProofs only [SD, SF, SL, e_nf, reduceCtorEq, implies_true, ↓reduceIte, Nat.reduceEqDiff, Nat.reduceAdd, Nat.reduceMul, Nat.reduceSub, Nat.reduceLeDiff, Nat.reduceLT, Int.reduceLT, Int.reduceLE, Int.reduceEq, Int.reduceToNat, Int.reduceAdd, Int.reduceSub, Int.reduceNeg, Int.reduceBEq, Int.reduceBNe, Nat.reduceBEq, Int.cast_ofNat_Int, decide_true, decide_false, ne_eq, eq_self_iff_true, beq_eq_false_iff_ne, bne_iff_ne, List.replicate, encMd, toQ, toP, *]
           done)
      | (with_reducible refine ite_in (fun _ => ?_) (fun _ => ?_))
      | (with_reducible refine ⟨fun _ => ?_, fun _ => ?_⟩)
      | (with_reducible refine And.intro ?_ ?_)
      | (with_reducible intro _)
      | (with_reducible exact is_in _)
      | (simp -implicitDefEqProofs only [SD, SF, SL, e_nf, reduceCtorEq, implies_true, ↓reduceIte, Nat.reduceEqDiff, Nat.reduceAdd, Nat.reduceMul, Nat.reduceSub, Nat.reduceLeDiff, Nat.reduceLT, Int.reduceLT, Int.reduceLE, Int.reduceEq, Int.reduceToNat, Int.reduceAdd, Int.reduceSub, Int.reduceNeg, Int.reduceBEq, Int.reduceBNe, Nat.reduceBEq, Int.cast_ofNat_Int, decide_true, decide_false, ne_eq, eq_self_iff_true, beq_eq_false_iff_ne, bne_iff_ne, List.replicate, encMd, *]))))
    all_goals (first
      | (simp_all [addR]; done)
      | (have hq : addR l m = (insL l m, 0) := by simp_all [addR]
         rw [hq]
         first | exact .inl rfl | rfl | (simp_all; done)))
  · rw [Nat.zero_add] at hp
    have hx := cutD encMd he
    simp only [encMd] at hx
    have hlt := cut_lt he
    have hlt2 := cut_lt' he
    have hge : ¬ ((pre.length : Int) < 0) := by omega
    obtain ⟨hg1, hs1, hl1⟩ := set_facts he
    replace he := Hd.mk he
    replace hsv := Hd.mk hsv
    replace hnm := Hd.mk hnm
    iterate 40 (all_goals (try (first
      | ((with_reducible refine of_kSpec ?_); refine call_fz (spec13 l) rfl ?_)
      | ((with_reducible refine of_kSpec ?_)
         refine call_sub (ds' := [.agg (encMd m)]) (spec29 m) rfl ?_ ?_
         · simp -implicitDefEqProofs only [SD, SF, SL, e_nf, reduceCtorEq, implies_true, ↓reduceIte, Nat.reduceEqDiff, Nat.reduceAdd, Nat.reduceMul, Nat.reduceSub, Nat.reduceLeDiff, Nat.reduceLT, Int.reduceLT, Int.reduceLE, Int.reduceEq, Int.reduceToNat, Int.reduceAdd, Int.reduceSub, Int.reduceNeg, Int.reduceBEq, Int.reduceBNe, Nat.reduceBEq, Int.cast_ofNat_Int, decide_true, decide_false, ne_eq, eq_self_iff_true, beq_eq_false_iff_ne, bne_iff_ne, List.replicate, encMd, *]
           done)
      | ((with_reducible refine of_kSpec ?_); refine call_fz (spec27 l m.server m.name) rfl ?_)
      | ((with_reducible refine of_kSpec ?_); refine call_subo (ds' := [.sl 5 (l.map encMd), .agg (encMd m)]) (spec33 l m hb) rfl ?_ ?_
         · simp -implicitDefEqProofs only [SD, SF, SL, e_nf, reduceCtorEq, implies_true, ↓reduceIte, Nat.reduceEqDiff, Nat.reduceAdd, Nat.reduceMul, Nat.reduceSub, Nat.reduceLeDiff, Nat.reduceLT, Int.reduceLT, Int.reduceLE, Int.reduceEq, Int.reduceToNat, Int.reduceAdd, Int.reduceSub, Int.reduceNeg, Int.reduceBEq, Int.reduceBNe, Nat.reduceBEq, Int.cast_ofNat_Int, decide_true, decide_false, ne_eq, eq_self_iff_true, beq_eq_false_iff_ne, bne_iff_ne, List.replicate, encMd, toQ, toP, *]
           done)
      | (with_reducible refine ite_in (fun _ => ?_) (fun _ => ?_))
      | (with_reducible refine ⟨fun _ => ?_, fun _ => ?_⟩)
      | (with_reducible refine And.intro ?_ ?_)
      | (with_reducible intro _)
      | (with_reducible exact is_in _)
      | (simp -implicitDefEqProofs only [SD, SF, SL, e_nf, reduceCtorEq, implies_true, ↓reduceIte, Nat.reduceEqDiff, Nat.reduceAdd, Nat.reduceMul, Nat.reduceSub, Nat.reduceLeDiff, Nat.reduceLT, Int.reduceLT, Int.reduceLE, Int.reduceEq, Int.reduceToNat, Int.reduceAdd, Int.reduceSub, Int.reduceNeg, Int.reduceBEq, Int.reduceBNe, Nat.reduceBEq, Int.cast_ofNat_Int, decide_true, decide_false, ne_eq, eq_self_iff_true, beq_eq_false_iff_ne, bne_iff_ne, List.replicate, encMd, *]))))
    all_goals (first
      | (simp_all [addR]; done)
      | (have hq : addR l m = (insL l m, 0) := by simp_all [addR]
         rw [hq]
         first | exact .inl rfl | rfl | (simp_all; done)))

def ac19 : AC := (.seq (.ops [⟨(some 3), none, (.box (.t 1))⟩, ⟨(some 4), none, (.mv (.c .e0))⟩, ⟨(some 5), none, (.mv (.c (.int .i64 0)))⟩]) (.seq (.seq (.ops [⟨(some 8), none, (.mv (.t 0))⟩, ⟨(some 9), none, (.call false 14 [(.t 8)])⟩, ⟨(some 6), none, (.mv (.t 9))⟩]) (.seq (.ops [⟨(some 10), none, (.mv (.t 6))⟩, ⟨(some 11), none, (.bin .neq (.t 10) (.c (.int .i64 0)))⟩]) (.cond (.t 11) (.seq (.ops [⟨(some 12), none, (.mv (.t 6))⟩, ⟨(some 4), none, (.mv (.c .e0))⟩, ⟨(some 5), none, (.mv (.t 12))⟩]) .ret) .skip))) (.seq (.seq (.ops [⟨(some 13), none, (.ld true 5 (.t 3))⟩, ⟨(some 14), none, (.call false 31 [(.t 13)])⟩, ⟨(some 7), none, (.mv (.t 14))⟩]) (.seq (.ops [⟨(some 15), none, (.mv (.t 7))⟩, ⟨(some 16), none, (.bin .neq (.t 15) (.c (.int .i64 0)))⟩]) (.cond (.t 16) (.seq (.ops [⟨(some 17), none, (.mv (.t 7))⟩, ⟨(some 4), none, (.mv (.c .e0))⟩, ⟨(some 5), none, (.mv (.t 17))⟩]) .ret) .skip))) (.seq (.seq (.ops [⟨(some 18), none, (.mv (.t 0))⟩, ⟨(some 19), none, (.fld 0 (.t 3))⟩, ⟨(some 20), none, (.ld false 1 (.t 19))⟩, ⟨(some 21), none, (.fld 1 (.t 3))⟩, ⟨(some 22), none, (.ld false 1 (.t 21))⟩, ⟨(some 23), none, (.call false 28 [(.t 18), (.t 20), (.t 22)])⟩, ⟨(some 24), none, (.bin .geq (.t 23) (.c (.int .i64 0)))⟩]) (.cond (.t 24) (.seq (.ops [⟨(some 4), none, (.mv (.c .e0))⟩, ⟨(some 5), none, (.mv (.c (.int .i64 4)))⟩]) .ret) .skip)) (.seq (.ops [⟨(some 25), none, (.mv (.t 0))⟩, ⟨(some 26), none, (.ld true 5 (.t 3))⟩, ⟨(some 27), none, (.call false 34 [(.t 25), (.t 26)])⟩, ⟨(some 4), none, (.mv (.t 27))⟩, ⟨(some 5), none, (.mv (.c (.int .i64 0)))⟩]) .ret)))))
theorem tr19 : Try.f19.body.bind (trCode Try.prog) = some (strip ac19) := by kernel_rfl
theorem spec19 (l : List Md) (m : Md) (hb : l.length ≤ 1000) : Spec Try.prog 19 [.fz (.sl 5 (l.map encMd)), .fz (.agg (encMd m))] (.fz (.tup [.sl 5 ((addR l m).1.map encMd), .int .i64 (addR l m).2])) := by
  refine spec_at (n := 26) (ars := [(.t 4), (.t 5)]) (ac := ac19) Try.func19 (by kernel_rfl) (by kernel_rfl) tr19 (by kernel_rfl) ?_
  unfold ac19
  rcases place_cases l m.server m.name 0 with ⟨hp, hf⟩ | ⟨pre, x, rest, he, hp, hf, hu, hsv, hnm⟩
  · skip
    iterate 40 (all_goals (try (first
      | ((with_reducible refine of_kSpec ?_); refine call_fz (spec14 l) rfl ?_)
      | ((with_reducible refine of_kSpec ?_)
         refine call_sub (ds' := [.agg (encMd m)]) (spec31 m) rfl ?_ ?_
         · simp -implicitDefEqProofs only [SD, SF, SL, e_nf, reduceCtorEq, implies_true, ↓reduceIte, Nat.reduceEqDiff, Nat.reduceAdd, Nat.reduceMul, Nat.reduceSub, Nat.reduceLeDiff, Nat.reduceLT, Int.reduceLT, Int.reduceLE, Int.reduceEq, Int.reduceToNat, Int.reduceAdd, Int.reduceSub, Int.reduceNeg, Int.reduceBEq, Int.reduceBNe, Nat.reduceBEq, Int.cast_ofNat_Int, decide_true, decide_false, ne_eq, eq_self_iff_true, beq_eq_false_iff_ne, bne_iff_ne, List.replicate, encMd, *]
           done)
      | ((with_reducible refine of_kSpec ?_); refine call_fz (spec28 l m.server m.name) rfl ?_)
      | ((with_reducible refine of_kSpec ?_); refine call_subo (ds' := [.sl 5 (l.map encMd), .agg (encMd m)]) (spec34 l m hb) rfl ?_ ?_
         · simp -implicitDefEqProofs only [SD, SF, SL, e_nf, reduceCtorEq, implies_true, ↓reduceIte, Nat.reduceEqDiff, Nat.reduceAdd, Nat.reduceMul, Nat.reduceSub, Nat.reduceLeDiff, Nat.reduceLT, Int.reduceLT, Int.reduceLE, Int.reduceEq, Int.reduceToNat, Int.reduceAdd, Int.reduceSub, Int.reduceNeg, Int.reduceBEq, Int.reduceBNe, Nat.reduceBEq, Int.cast_ofNat_Int, decide_true, decide_false, ne_eq, eq_self_iff_true, beq_eq_false_iff_ne, bne_iff_ne, List.replicate, encMd, toQ, toP, *]
           done)
      | (with_reducible refine ite_in (fun _ => ?_) (fun _ => ?_))
      | (with_reducible refine ⟨fun _ => ?_, fun _ => ?_⟩)
      | (with_reducible refine And.intro ?_ ?_)
      | (with_reducible intro _)
      | (with_reducible exact is_in _)
      | (simp -implicitDefEqProofs only [SD, SF, SL, e_nf, reduceCtorEq, implies_true, ↓reduceIte, Nat.reduceEqDiff, Nat.reduceAdd, Nat.reduceMul, Nat.reduceSub, Nat.reduceLeDiff, Nat.reduceLT, Int.reduceLT, Int.reduceLE, Int.reduceEq, Int.reduceToNat, Int.reduceAdd, Int.reduceSub, Int.reduceNeg, Int.reduceBEq, Int.reduceBNe, Nat.reduceBEq, Int.cast_ofNat_Int, decide_true, decide_false, ne_eq, eq_self_iff_true, beq_eq_false_iff_ne, bne_iff_ne, List.replicate, encMd, *]))))
    all_goals (first
      | (simp_all [addR]; done)
      | (have hq : addR l m = (insL l m, 0) := by simp_all [addR]
         rw [hq]
         first | exact .inl rfl | rfl | (simp_all; done)))
  · rw [Nat.zero_add] at hp
    have hx := cutD encMd he
    simp only [encMd] at hx
    have hlt := cut_lt he
    have hlt2 := cut_lt' he
    have hge : ¬ ((pre.length : Int) < 0) := by omega
    obtain ⟨hg1, hs1, hl1⟩ := set_facts he
    replace he := Hd.mk he
    replace hsv := Hd.mk hsv
    replace hnm := Hd.mk hnm
    iterate 40 (all_goals (try (first
      | ((with_reducible refine of_kSpec ?_); refine call_fz (spec14 l) rfl ?_)
      | ((with_reducible refine of_kSpec ?_)
         refine call_sub (ds' := [.agg (encMd m)]) (spec31 m) rfl ?_ ?_
         · simp -implicitDefEqProofs only [SD, SF, SL, e_nf, reduceCtorEq, implies_true, ↓reduceIte, Nat.reduceEqDiff, Nat.reduceAdd, Nat.reduceMul, Nat.reduceSub, Nat.reduceLeDiff, Nat.reduceLT, Int.reduceLT, Int.reduceLE, Int.reduceEq, Int.reduceToNat, Int.reduceAdd, Int.reduceSub, Int.reduceNeg, Int.reduceBEq, Int.reduceBNe, Nat.reduceBEq, Int.cast_ofNat_Int, decide_true, decide_false, ne_eq, eq_self_iff_true, beq_eq_false_iff_ne, bne_iff_ne, List.replicate, encMd, *]
           done)
      | ((with_reducible refine of_kSpec ?_); refine call_fz (spec28 l m.server m.name) rfl ?_)
      | ((with_reducible refine of_kSpec ?_); refine call_subo (ds' := [.sl 5 (l.map encMd), .agg (encMd m)]) (spec34 l m hb) rfl ?_ ?_
         · simp -implicitDefEqProofs only [SD, SF, SL, e_nf, reduceCtorEq, implies_true, ↓reduceIte, Nat.reduceEqDiff, Nat.reduceAdd, Nat.reduceMul, Nat.reduceSub, Nat.reduceLeDiff, Nat.reduceLT, Int.reduceLT, Int.reduceLE, Int.reduceEq, Int.reduceToNat, Int.reduceAdd, Int.reduceSub, Int.reduceNeg, Int.reduceBEq, Int.reduceBNe, Nat.reduceBEq, Int.cast_ofNat_Int, decide_true, decide_false, ne_eq, eq_self_iff_true, beq_eq_false_iff_ne, bne_iff_ne, List.replicate, encMd, toQ, toP, *]
           done)
      | (with_reducible refine ite_in (fun _ => ?_) (fun _ => ?_))
      | (with_reducible refine ⟨fun _ => ?_, fun _ => ?_⟩)
      | (with_reducible refine And.intro ?_ ?_)
      | (with_reducible intro _)
      | (with_reducible exact is_in _)
      | (simp -implicitDefEqProofs only [SD, SF, SL, e_nf, reduceCtorEq, implies_true, ↓reduceIte, Nat.reduceEqDiff, Nat.reduceAdd, Nat.reduceMul, Nat.reduceSub, Nat.reduceLeDiff, Nat.reduceLT, Int.reduceLT, Int.reduceLE, Int.reduceEq, Int.reduceToNat, Int.reduceAdd, Int.reduceSub, Int.reduceNeg, Int.reduceBEq, Int.reduceBNe, Nat.reduceBEq, Int.cast_ofNat_Int, decide_true, decide_false, ne_eq, eq_self_iff_true, beq_eq_false_iff_ne, bne_iff_ne, List.replicate, encMd, *]))))
    all_goals (first
      | (simp_all [addR]; done)
      | (have hq : addR l m = (insL l m, 0) := by simp_all [addR]
         rw [hq]
         first | exact .inl rfl | rfl | (simp_all; done)))


end Go.Proofs.Ytfcjmblhcakhaaa.E
