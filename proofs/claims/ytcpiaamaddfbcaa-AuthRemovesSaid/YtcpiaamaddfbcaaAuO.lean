/-
  AuO: walks of functions of the program at data level.
-/
import Derived.Test.YtcpiaamaddfbcaaProg
import Derived.Test.YtcpiaamaddfbcaaEngZ
import Derived.Test.YtcpiaamaddfbcaaAuN
import Derived.KernelRfl
set_option linter.unusedVariables false
set_option linter.unusedSimpArgs false
namespace Go.Proofs.Ytcpiaamaddfbcaa.E
open Go
set_option maxHeartbeats 4000000
set_option maxRecDepth 100000
set_option linter.unusedSimpArgs false
set_option linter.unusedVariables false
attribute [local congr] c_wp c_ops c_op c_opS c_run c_runS c_dt c_seq c_blk c_loop c_S c_put c_bind c_mv c_pick c_nt c_ng c_bin c_binI c_binS c_beq c_B c_eqa c_hd c_cells c_blkK c_box c_vec c_take c_ld c_ldF c_cellsK c_st c_fld c_fldv c_ix c_ixp c_ixv c_ixs c_sub c_subs c_len c_lens c_src c_dst c_ow c_app c_ext c_mm c_conv c_str c_isn c_fill c_rows c_boxo c_frz c_frzO c_frzA c_frzV c_spec c_specO c_opsP c_opP c_runP c_specP c_Z c_qretP c_fz c_fn c_gv c_cond c_res1 c_resL c_ret c_qret c_ite c_unr c_nx c_bk c_cut c_is
attribute [local irreducible] dwp
def ac35 : AC := (.seq (.draw (.q false ⟨(some 9), none, (.fld 5 (.t 0))⟩ (.q false ⟨(some 10), none, (.ld false 1 (.t 9))⟩ (.q false ⟨(some 11), none, (.fld 10 (.t 0))⟩ (.q false ⟨(some 12), none, (.fld 1 (.t 11))⟩ (.q false ⟨(some 13), none, (.ld false 1 (.t 12))⟩ (.q false ⟨(some 14), none, (.ld false 1 (.t 1))⟩ (.q false ⟨(some 15), none, (.fld 5 (.t 0))⟩ (.q false ⟨(some 16), none, (.ld false 1 (.t 15))⟩ (.op ⟨(some 17), none, (.call false 32 [(.t 14), (.t 16)])⟩ (.q false ⟨(some 2), none, (.mv (.t 10))⟩ (.q false ⟨(some 3), none, (.mv (.t 13))⟩ (.q false ⟨(some 4), none, (.mv (.t 17))⟩ .nil))))))))))))) (.seq (.ops [⟨(some 18), none, (.mv (.t 2))⟩, ⟨(some 19), none, (.fld 2 (.t 0))⟩, ⟨(some 20), none, (.ld false 1 (.t 19))⟩, ⟨(some 21), none, (.bin .eql (.t 18) (.t 20))⟩, ⟨(some 5), none, (.mv (.t 21))⟩]) (.seq (.opsp [⟨(some 22), none, (.mv (.t 5))⟩, ⟨(some 23), none, (.nt (.t 22))⟩, ⟨(some 24), none, (.mv (.t 23))⟩, ⟨(some 25), (some (24, false)), (.mv (.t 4))⟩, ⟨(some 26), (some (24, false)), (.bin .neq (.t 25) (.c (.int .i64 4)))⟩, ⟨(some 27), none, (.pick (.t 24) (.c (.bool true)) (.t 26))⟩, ⟨(some 28), none, (.call false 29 [(.t 27), (.c (.int .i64 19))])⟩]) (.seq (.opsp [⟨(some 29), none, (.mv (.t 4))⟩, ⟨(some 30), none, (.mv (.t 3))⟩, ⟨(some 31), none, (.mv (.t 5))⟩, ⟨(some 32), none, (.call false 36 [(.t 29), (.t 30), (.t 31)])⟩, ⟨(some 33), none, (.call false 29 [(.t 32), (.c (.int .i64 18))])⟩]) (.seq (.seq (.ops [⟨(some 34), none, (.mv (.t 5))⟩]) (.cond (.t 34) (.opsp [⟨(some 35), none, (.mv (.t 3))⟩, ⟨(some 36), none, (.mv (.t 4))⟩, ⟨(some 37), none, (.ld false 1 (.t 1))⟩, ⟨(some 38), none, (.call false 37 [(.t 35), (.t 36), (.t 37)])⟩, ⟨(some 39), none, (.call false 31 [(.t 38)])⟩]) .skip)) (.seq (.opsp [⟨(some 40), none, (.ld false 1 (.t 1))⟩, ⟨(some 41), none, (.fld 2 (.t 0))⟩, ⟨(some 42), none, (.ld false 1 (.t 41))⟩, ⟨(some 43), none, (.call false 32 [(.t 40), (.t 42)])⟩, ⟨(some 44), none, (.bin .eql (.t 43) (.c (.int .i64 3)))⟩, ⟨(some 45), none, (.call false 29 [(.t 44), (.c (.int .i64 18))])⟩]) (.seq (.ops [⟨(some 47), none, (.ld false 1 (.t 1))⟩, ⟨(some 48), none, (.call false 38 [(.t 47)])⟩, ⟨(some 46), none, (.mv (.t 48))⟩, ⟨(some 49), none, (.ext (.t 46) 0)⟩, ⟨(some 50), none, (.ext (.t 46) 1)⟩, ⟨(some 6), none, (.alloc [.e0, .e0, (.int .i64 0), (.int .i64 0), (.int .i64 0), (.int .i64 0), (.int .i64 0), (.int .i64 0), (.int .i64 0)])⟩, ⟨none, none, (.sto 9 (.t 6) (.t 49))⟩, ⟨(some 7), none, (.mv (.t 50))⟩]) (.seq (.ops [⟨(some 51), none, (.ld true 9 (.t 6))⟩, ⟨(some 52), none, (.fld 2 (.t 0))⟩, ⟨(some 53), none, (.ld false 1 (.t 52))⟩, ⟨(some 54), none, (.call false 39 [(.t 51), (.t 53)])⟩, ⟨(some 8), none, (.mv (.t 54))⟩]) (.seq .skip (.seq (.ops [⟨(some 55), none, (.mv (.t 3))⟩]) (.block 0 (.seq (.ops [⟨(some 57), none, (.bin .eql (.t 55) (.c (.int .i64 1)))⟩, ⟨(some 56), none, (.mv (.t 57))⟩]) (.cond (.t 56) (.seq (.opsp [⟨(some 58), none, (.mv (.t 8))⟩, ⟨(some 59), none, (.fld 5 (.t 6))⟩, ⟨(some 60), none, (.ld false 1 (.t 59))⟩, ⟨(some 61), none, (.bin .geq (.t 58) (.t 60))⟩, ⟨(some 62), none, (.call false 29 [(.t 61), (.c (.int .i64 20))])⟩]) (.exit 0)) (.seq (.ops [⟨(some 64), none, (.bin .eql (.t 55) (.c (.int .i64 0)))⟩, ⟨(some 63), none, (.mv (.t 64))⟩]) (.cond (.t 63) (.seq (.opsp [⟨(some 65), none, (.mv (.t 4))⟩, ⟨(some 66), none, (.bin .neq (.t 65) (.c (.int .i64 4)))⟩, ⟨(some 67), none, (.mv (.t 66))⟩, ⟨(some 68), (some (67, false)), (.mv (.t 8))⟩, ⟨(some 69), (some (67, false)), (.fld 7 (.t 6))⟩, ⟨(some 70), (some (67, false)), (.ld false 1 (.t 69))⟩, ⟨(some 71), (some (67, false)), (.bin .geq (.t 68) (.t 70))⟩, ⟨(some 72), none, (.pick (.t 67) (.c (.bool true)) (.t 71))⟩, ⟨(some 73), none, (.call false 29 [(.t 72), (.c (.int .i64 20))])⟩]) (.opsp [⟨(some 74), none, (.mv (.t 8))⟩, ⟨(some 75), none, (.fld 6 (.t 6))⟩, ⟨(some 76), none, (.ld false 1 (.t 75))⟩, ⟨(some 77), none, (.bin .geq (.t 74) (.t 76))⟩, ⟨(some 78), none, (.mv (.t 77))⟩, ⟨(some 79), (some (78, true)), (.ld true 9 (.t 6))⟩, ⟨(some 80), (some (78, true)), (.mv (.t 2))⟩, ⟨(some 81), (some (78, true)), (.call false 39 [(.t 79), (.t 80)])⟩, ⟨(some 82), (some (78, true)), (.mv (.t 8))⟩, ⟨(some 83), (some (78, true)), (.bin .lss (.t 81) (.t 82))⟩, ⟨(some 84), none, (.pick (.t 78) (.t 83) (.c (.bool false)))⟩, ⟨(some 85), none, (.call false 29 [(.t 84), (.c (.int .i64 20))])⟩])) (.seq (.ops [⟨(some 87), none, (.bin .eql (.t 55) (.c (.int .i64 4)))⟩, ⟨(some 86), none, (.mv (.t 87))⟩]) (.cond (.t 86) (.opsp [⟨(some 88), none, (.mv (.t 8))⟩, ⟨(some 89), none, (.fld 7 (.t 6))⟩, ⟨(some 90), none, (.ld false 1 (.t 89))⟩, ⟨(some 91), none, (.bin .geq (.t 88) (.t 90))⟩, ⟨(some 92), none, (.mv (.t 91))⟩, ⟨(some 93), (some (92, true)), (.ld true 9 (.t 6))⟩, ⟨(some 94), (some (92, true)), (.mv (.t 2))⟩, ⟨(some 95), (some (92, true)), (.call false 39 [(.t 93), (.t 94)])⟩, ⟨(some 96), (some (92, true)), (.mv (.t 8))⟩, ⟨(some 97), (some (92, true)), (.bin .lss (.t 95) (.t 96))⟩, ⟨(some 98), none, (.pick (.t 92) (.t 97) (.c (.bool false)))⟩, ⟨(some 99), none, (.call false 29 [(.t 98), (.c (.int .i64 20))])⟩]) .skip)))))))))))))))))
theorem tr35 : Try.f35.body.bind (trCode Try.prog) = some (strip ac35) := by kernel_rfl
theorem specP35 (e : Ev) (es : List Ev) (ha : ∀ e ∈ es, e.allow.length ≤ 1000) (hb : ∀ e ∈ es, e.lv.users.length ≤ 1000 ∧ e.lv.kinds.length ≤ 1000) (hp : e.key = e.sender ∨ memR' e es ≠ 0) : SpecP Try.prog 35 [(.pf (encEv e)), (.pf [.sl 29 (es.map encEv)])] (verdD (memR' e es)) := by
  refine specP_at (n := 98) (ac := ac35) Try.func35 (by kernel_rfl) (by kernel_rfl) tr35 ?_
  unfold ac35
  iterate 60 (all_goals (try (first
    | (with_reducible refine need_call ?_)
    | (with_reducible refine callP_pan (specP31 _) rfl ?_)
    | (with_reducible refine callP_ret ?_)
    | ((with_reducible refine of_kSpec ?_); refine call_fz (spec32 es _) rfl ?_)
    | ((with_reducible refine of_kSpec ?_); refine call_fz (spec36 _ _ _) rfl ?_)
    | ((with_reducible refine of_kSpec ?_); refine call_fz (spec37 _ _ es ha) rfl ?_)
    | ((with_reducible refine of_kSpec ?_); refine call_fz (spec38 es hb) rfl ?_)
    | ((with_reducible refine of_kSpec ?_); refine call_fz (spec39 (levelsL es) _) rfl ?_)
    | ((with_reducible refine of_kSpec ?_); refine call_fz (spec29 _) rfl ?_)
    | (with_reducible refine ite_in (fun _ => ?_) (fun _ => ?_))
    | (with_reducible refine ⟨fun _ => ?_, fun _ => ?_⟩)
    | (with_reducible refine And.intro ?_ ?_)
    | (with_reducible intro _)
    | (with_reducible exact is_in _)
    | ((with_reducible refine eq_in ?_); ((first | (simp_all [memR', othR, userV]; done) | grind [memR', othR, userV])); done)
    | (simp -implicitDefEqProofs only [SD, SF, SL, e_nf, reduceCtorEq, implies_true, ↓reduceIte, Nat.reduceEqDiff, Nat.reduceAdd, Nat.reduceMul, Nat.reduceSub, Nat.reduceLeDiff, Nat.reduceLT, Int.reduceLT, Int.reduceLE, Int.reduceEq, Int.reduceToNat, Int.reduceAdd, Int.reduceSub, Int.reduceNeg, Int.reduceBEq, Int.reduceBNe, Nat.reduceBEq, Int.cast_ofNat_Int, decide_true, decide_false, ne_eq, eq_self_iff_true, beq_eq_false_iff_ne, bne_iff_ne, List.replicate, encEv, encLv, verd_sub, *]))))
  all_goals ((first | (simp_all [memR', othR, userV]; done) | grind [memR', othR, userV]))
theorem spec35 (e : Ev) (es : List Ev) (ha : ∀ e ∈ es, e.allow.length ≤ 1000) (hb : ∀ e ∈ es, e.lv.users.length ≤ 1000 ∧ e.lv.kinds.length ≤ 1000) (hp : ¬ (e.key = e.sender ∨ memR' e es ≠ 0)) : Spec Try.prog 35 [.fz (.pf (encEv e)), .fz (.pf [.sl 29 (es.map encEv)])] (.fz (.tup [])) := by
  refine spec_at (n := 98) (ars := []) (ac := ac35) Try.func35 (by kernel_rfl) (by kernel_rfl) tr35 (by kernel_rfl) ?_
  unfold ac35
  iterate 60 (all_goals (try (first
    | (with_reducible refine need_call ?_)
    | (with_reducible refine callP_pan (specP31 _) rfl ?_)
    | (with_reducible refine callP_ret ?_)
    | ((with_reducible refine of_kSpec ?_); refine call_fz (spec32 es _) rfl ?_)
    | ((with_reducible refine of_kSpec ?_); refine call_fz (spec36 _ _ _) rfl ?_)
    | ((with_reducible refine of_kSpec ?_); refine call_fz (spec37 _ _ es ha) rfl ?_)
    | ((with_reducible refine of_kSpec ?_); refine call_fz (spec38 es hb) rfl ?_)
    | ((with_reducible refine of_kSpec ?_); refine call_fz (spec39 (levelsL es) _) rfl ?_)
    | ((with_reducible refine of_kSpec ?_); refine call_fz (spec29 _) rfl ?_)
    | (with_reducible refine ite_in (fun _ => ?_) (fun _ => ?_))
    | (with_reducible refine ⟨fun _ => ?_, fun _ => ?_⟩)
    | (with_reducible refine And.intro ?_ ?_)
    | (with_reducible intro _)
    | (with_reducible exact is_in _)
    | ((with_reducible refine eq_in ?_); ((first | (simp_all [memR', othR, userV]; done) | grind [memR', othR, userV])); done)
    | (simp -implicitDefEqProofs only [SD, SF, SL, e_nf, reduceCtorEq, implies_true, ↓reduceIte, Nat.reduceEqDiff, Nat.reduceAdd, Nat.reduceMul, Nat.reduceSub, Nat.reduceLeDiff, Nat.reduceLT, Int.reduceLT, Int.reduceLE, Int.reduceEq, Int.reduceToNat, Int.reduceAdd, Int.reduceSub, Int.reduceNeg, Int.reduceBEq, Int.reduceBNe, Nat.reduceBEq, Int.cast_ofNat_Int, decide_true, decide_false, ne_eq, eq_self_iff_true, beq_eq_false_iff_ne, bne_iff_ne, List.replicate, encEv, encLv, verd_sub, *]))))
  all_goals ((first | (simp_all [memR', othR, userV]; done) | grind [memR', othR, userV]))

end Go.Proofs.Ytcpiaamaddfbcaa.E
