/-
  FiC6: walks of functions of the program at data level.
-/
import Derived.Test.YtamcbdflmephdaaProg
import Derived.Test.YtamcbdflmephdaaEngZ
import Derived.Test.YtamcbdflmephdaaFiC3
import Derived.Test.YtamcbdflmephdaaFiT
import Derived.Test.YtamcbdflmephdaaFiQ
import Derived.KernelRfl
set_option linter.unusedVariables false
set_option linter.unusedSimpArgs false
namespace Go.Proofs.Ytamcbdflmephdaa.E
open Go
set_option maxHeartbeats 4000000
set_option maxRecDepth 100000
set_option linter.unusedSimpArgs false
set_option linter.unusedVariables false
attribute [local congr] c_wp c_ops c_op c_opS c_run c_runS c_dt c_seq c_blk c_loop c_S c_put c_bind c_mv c_pick c_nt c_ng c_bin c_binI c_binS c_beq c_B c_eqa c_hd c_cells c_blkK c_box c_vec c_mp c_nck c_mks c_appn c_mkm c_mput c_mlk c_mrm c_take c_ld c_ldF c_cellsK c_st c_fld c_fldv c_ix c_ixp c_ixv c_ixs c_sub c_subs c_len c_lens c_src c_dst c_ow c_app c_ext c_mm c_conv c_str c_isn c_fill c_rows c_boxo c_frz c_frzO c_frzA c_frzV c_spec c_specO c_opsP c_opP c_runP c_specP c_Z c_qretP c_fz c_fn c_gv c_cond c_res1 c_resL c_ret c_qret c_ite c_unr c_nx c_bk c_cut c_is
attribute [local irreducible] dwp
def ac6 : AC := (.seq (.ops [⟨(some 3), none, (.box (.t 0))⟩, ⟨(some 6), none, (.mv (.c (.bool false)))⟩]) (.seq (.seq (.ops [⟨(some 7), none, (.ld true 5 (.t 3))⟩, ⟨(some 8), none, (.call false 9 [(.t 7)])⟩, ⟨(some 9), none, (.nt (.t 8))⟩, ⟨(some 10), none, (.mv (.t 9))⟩, ⟨(some 11), (some (10, false)), (.mv (.t 1))⟩, ⟨(some 12), (some (10, false)), (.call false 13 [(.t 11)])⟩, ⟨(some 13), (some (10, false)), (.nt (.t 12))⟩, ⟨(some 14), none, (.pick (.t 10) (.c (.bool true)) (.t 13))⟩, ⟨(some 15), none, (.mv (.t 14))⟩, ⟨(some 16), (some (15, false)), (.mv (.t 2))⟩, ⟨(some 17), (some (15, false)), (.call false 13 [(.t 16)])⟩, ⟨(some 18), (some (15, false)), (.nt (.t 17))⟩, ⟨(some 19), none, (.pick (.t 15) (.c (.bool true)) (.t 18))⟩]) (.cond (.t 19) (.seq (.ops [⟨(some 20), none, (.call false 10 [])⟩, ⟨(some 6), none, (.mv (.t 20))⟩]) .ret) .skip)) (.seq (.draw (.q false ⟨(some 21), none, (.ld true 5 (.t 3))⟩ (.q false ⟨(some 22), none, (.mv (.t 1))⟩ (.q false ⟨(some 23), none, (.mv (.t 2))⟩ (.q false ⟨(some 25), none, (.ld true 5 (.t 3))⟩ (.q false ⟨(some 26), none, (.mv (.t 1))⟩ (.q false ⟨(some 27), none, (.mv (.t 2))⟩ (.op ⟨(some 24), none, (.call false 19 [(.t 21), (.t 22), (.t 23)])⟩ (.op ⟨(some 28), none, (.call false 20 [(.t 25), (.t 26), (.t 27)])⟩ (.op ⟨(some 29), none, (.call false 18 [(.t 24), (.t 28)])⟩ (.q false ⟨(some 30), none, (.mv (.t 29))⟩ (.op ⟨(some 31), (some (30, true)), (.call false 10 [])⟩ (.q false ⟨(some 32), none, (.pick (.t 30) (.t 31) (.c (.bool false)))⟩ (.q false ⟨(some 6), none, (.mv (.t 32))⟩ .nil)))))))))))))) .ret)))
theorem tr6 : Try.f6.body.bind (trCode Try.prog) = some (strip ac6) := by kernel_rfl
theorem spec6 (f : Flt) (st sh : List Ev) : Spec Try.prog 6 [.fz (.agg (encFl f)), .fz (.sl 29 (st.map encEv)), .fz (.sl 29 (sh.map encEv))] (.fz (.bool true)) := by
  refine spec_at (n := 30) (ars := [(.t 6)]) (ac := ac6) Try.func6 (by kernel_rfl) (by kernel_rfl) tr6 (by kernel_rfl) ?_
  unfold ac6
  by_cases hl : lightB st = true
  case neg =>
    iterate 30 (all_goals (try (first
      | ((with_reducible refine of_kSpec ?_); refine call_fz (spec9 f) rfl ?_)
      | ((with_reducible refine of_kSpec ?_); refine call_fz (spec10) rfl ?_)
      | ((with_reducible refine of_kSpec ?_); refine call_fz (spec13 st) rfl ?_)
      | ((with_reducible refine of_kSpec ?_); refine call_fz (spec13 sh) rfl ?_)
      | (with_reducible refine ite_in (fun _ => ?_) (fun _ => ?_))
      | (with_reducible refine ⟨fun _ => ?_, fun _ => ?_⟩)
      | (with_reducible refine And.intro ?_ ?_)
      | (with_reducible intro _)
      | (with_reducible exact is_in _)
      | (simp -implicitDefEqProofs only [SD, SF, SL, e_nf, reduceCtorEq, implies_true, ↓reduceIte, Nat.reduceEqDiff, Nat.reduceAdd, Nat.reduceMul, Nat.reduceSub, Nat.reduceLeDiff, Nat.reduceLT, Int.reduceLT, Int.reduceLE, Int.reduceEq, Int.reduceToNat, Int.reduceAdd, Int.reduceSub, Int.reduceNeg, Int.reduceBEq, Int.reduceBNe, Nat.reduceBEq, Int.cast_ofNat_Int, decide_true, decide_false, ne_eq, eq_self_iff_true, beq_eq_false_iff_ne, bne_iff_ne, List.replicate, encFl, *]))))
    all_goals (first | (simp_all; done) | (simp_all; omega) | trace_state)
  case pos =>
    have hb := light_le hl
    iterate 60 (all_goals (try (first
      | ((with_reducible refine of_kSpec ?_); refine call_fz (spec9 f) rfl ?_)
      | ((with_reducible refine of_kSpec ?_); refine call_fz (spec10) rfl ?_)
      | ((with_reducible refine of_kSpec ?_); refine call_fz (spec13 st) rfl ?_)
      | ((with_reducible refine of_kSpec ?_); refine call_fz (spec13 sh) rfl ?_)
      | ((with_reducible refine of_kSpec ?_); refine call_fz (spec19 f st sh (by omega)) rfl ?_)
      | ((with_reducible refine of_kSpec ?_); refine call_fz (spec20 f st sh (by omega)) rfl ?_)
      | ((with_reducible refine of_kSpec ?_); refine call_fz (spec18 (lazyL f st sh) (lazyL f st sh)) rfl ?_)
      | (with_reducible refine ite_in (fun _ => ?_) (fun _ => ?_))
      | (with_reducible refine ⟨fun _ => ?_, fun _ => ?_⟩)
      | (with_reducible refine And.intro ?_ ?_)
      | (with_reducible intro _)
      | (with_reducible exact is_in _)
      | (simp -implicitDefEqProofs only [SD, SF, SL, e_nf, reduceCtorEq, implies_true, ↓reduceIte, Nat.reduceEqDiff, Nat.reduceAdd, Nat.reduceMul, Nat.reduceSub, Nat.reduceLeDiff, Nat.reduceLT, Int.reduceLT, Int.reduceLE, Int.reduceEq, Int.reduceToNat, Int.reduceAdd, Int.reduceSub, Int.reduceNeg, Int.reduceBEq, Int.reduceBNe, Nat.reduceBEq, Int.cast_ofNat_Int, decide_true, decide_false, ne_eq, eq_self_iff_true, beq_eq_false_iff_ne, bne_iff_ne, List.replicate, encFl, *]))))
    all_goals (first | (simp_all; done) | (simp_all; omega) | trace_state)


end Go.Proofs.Ytamcbdflmephdaa.E
