/-
  FiC5: walks of functions of the program at data level.
-/
import Derived.Test.YtamcbdflmephdaaProg
import Derived.Test.YtamcbdflmephdaaEngZ
import Derived.Test.YtamcbdflmephdaaFiC3
import Derived.Test.YtamcbdflmephdaaFiZ4
import Derived.Test.YtamcbdflmephdaaFiQ
import Derived.KernelRfl
set_option linter.unusedVariables false
set_option linter.unusedSimpArgs false
namespace Go.Proofs.Ytamcbdflmephdaa.E
open Go
set_option maxHeartbeats 4000000
set_option maxRecDepth 100000
set_option linter.unusedSimpArgs false
set_option linter.unusedVariables false
attribute [local congr] c_wp c_ops c_op c_opS c_run c_runS c_dt c_seq c_blk c_loop c_S c_put c_bind c_mv c_pick c_nt c_ng c_bin c_binI c_binS c_beq c_B c_eqa c_hd c_cells c_blkK c_box c_vec c_mp c_nck c_mks c_appn c_mkm c_mput c_mlk c_mrm c_take c_ld c_ldF c_cellsK c_st c_fld c_fldv c_ix c_ixp c_ixv c_ixs c_sub c_subs c_len c_lens c_src c_dst c_ow c_app c_ext c_mm c_conv c_str c_isn c_fill c_rows c_boxo c_frz c_frzO c_frzA c_frzV c_spec c_specO c_opsP c_opP c_runP c_specP c_Z c_qretP c_fz c_fn c_gv c_cond c_res1 c_resL c_ret c_qret c_ite c_unr c_nx c_bk c_cut c_is
attribute [local irreducible] dwp
def ac5 : AC := (.seq (.ops [⟨(some 2), none, (.box (.t 0))⟩, ⟨(some 4), none, (.mv (.c (.bool false)))⟩]) (.seq (.seq (.ops [⟨(some 9), none, (.ld true 5 (.t 2))⟩, ⟨(some 10), none, (.call false 9 [(.t 9)])⟩, ⟨(some 11), none, (.nt (.t 10))⟩, ⟨(some 12), none, (.mv (.t 11))⟩, ⟨(some 13), (some (12, false)), (.mv (.t 1))⟩, ⟨(some 14), (some (12, false)), (.call false 13 [(.t 13)])⟩, ⟨(some 15), (some (12, false)), (.nt (.t 14))⟩, ⟨(some 16), none, (.pick (.t 12) (.c (.bool true)) (.t 15))⟩]) (.cond (.t 16) (.seq (.ops [⟨(some 17), none, (.call false 10 [])⟩, ⟨(some 4), none, (.mv (.t 17))⟩]) .ret) .skip)) (.seq (.ops [⟨(some 19), none, (.ld true 5 (.t 2))⟩, ⟨(some 20), none, (.mv (.t 1))⟩, ⟨(some 21), none, (.call false 16 [(.t 19), (.t 20)])⟩, ⟨(some 18), none, (.mv (.t 21))⟩, ⟨(some 22), none, (.ext (.t 18) 0)⟩, ⟨(some 23), none, (.ext (.t 18) 1)⟩, ⟨(some 5), none, (.mv (.t 22))⟩, ⟨(some 6), none, (.mv (.t 23))⟩]) (.seq (.ops [⟨(some 25), none, (.ld true 5 (.t 2))⟩, ⟨(some 26), none, (.mv (.t 1))⟩, ⟨(some 27), none, (.call false 17 [(.t 25), (.t 26)])⟩, ⟨(some 24), none, (.mv (.t 27))⟩, ⟨(some 28), none, (.ext (.t 24) 0)⟩, ⟨(some 29), none, (.ext (.t 24) 1)⟩, ⟨(some 7), none, (.mv (.t 28))⟩, ⟨(some 8), none, (.mv (.t 29))⟩]) (.seq (.ops [⟨(some 30), none, (.mv (.t 6))⟩, ⟨(some 31), none, (.mv (.t 8))⟩, ⟨(some 32), none, (.beq false (.t 30) (.t 31))⟩, ⟨(some 33), none, (.mv (.t 32))⟩, ⟨(some 34), (some (33, true)), (.mv (.t 5))⟩, ⟨(some 35), (some (33, true)), (.mv (.t 7))⟩, ⟨(some 36), (some (33, true)), (.call false 18 [(.t 34), (.t 35)])⟩, ⟨(some 37), none, (.pick (.t 33) (.t 36) (.c (.bool false)))⟩, ⟨(some 38), none, (.mv (.t 37))⟩, ⟨(some 39), (some (38, true)), (.call false 10 [])⟩, ⟨(some 40), none, (.pick (.t 38) (.t 39) (.c (.bool false)))⟩, ⟨(some 4), none, (.mv (.t 40))⟩]) .ret)))))
theorem tr5 : Try.f5.body.bind (trCode Try.prog) = some (strip ac5) := by kernel_rfl
theorem spec5 (f : Flt) (es : List Ev) : Spec Try.prog 5 [.fz (.agg (encFl f)), .fz (.sl 29 (es.map encEv))] (.fz (.bool true)) := by
  refine spec_at (n := 39) (ars := [(.t 4)]) (ac := ac5) Try.func5 (by kernel_rfl) (by kernel_rfl) tr5 (by kernel_rfl) ?_
  unfold ac5
  by_cases hl : lightB es = true
  case neg =>
    iterate 30 (all_goals (try (first
      | ((with_reducible refine of_kSpec ?_); refine call_fz (spec9 f) rfl ?_)
      | ((with_reducible refine of_kSpec ?_); refine call_fz (spec10) rfl ?_)
      | ((with_reducible refine of_kSpec ?_); refine call_fz (spec13 es) rfl ?_)
      | (with_reducible refine ite_in (fun _ => ?_) (fun _ => ?_))
      | (with_reducible refine ⟨fun _ => ?_, fun _ => ?_⟩)
      | (with_reducible refine And.intro ?_ ?_)
      | (with_reducible intro _)
      | (with_reducible exact is_in _)
      | (simp -implicitDefEqProofs only [SD, SF, SL, e_nf, reduceCtorEq, implies_true, ↓reduceIte, Nat.reduceEqDiff, Nat.reduceAdd, Nat.reduceMul, Nat.reduceSub, Nat.reduceLeDiff, Nat.reduceLT, Int.reduceLT, Int.reduceLE, Int.reduceEq, Int.reduceToNat, Int.reduceAdd, Int.reduceSub, Int.reduceNeg, Int.reduceBEq, Int.reduceBNe, Nat.reduceBEq, Int.cast_ofNat_Int, decide_true, decide_false, ne_eq, eq_self_iff_true, beq_eq_false_iff_ne, bne_iff_ne, List.replicate, encFl, *]))))
    all_goals (first | (simp_all; done) | (simp_all; omega) | trace_state)
  case pos =>
    have hb := light_le hl
    iterate 60 (all_goals (try (first
      | ((with_reducible refine of_kSpec ?_); refine call_fz (spec9 f) rfl ?_)
      | ((with_reducible refine of_kSpec ?_); refine call_fz (spec10) rfl ?_)
      | ((with_reducible refine of_kSpec ?_); refine call_fz (spec13 es) rfl ?_)
      | ((with_reducible refine of_kSpec ?_); refine call_fz (spec16 f es (by omega)) rfl ?_)
      | ((with_reducible refine of_kSpec ?_); refine call_fz (spec17 f es (by omega)) rfl ?_)
      | ((with_reducible refine of_kSpec ?_); refine call_fz (spec18 (cutL f es).1 (cutL f es).1) rfl ?_)
      | (with_reducible refine ite_in (fun _ => ?_) (fun _ => ?_))
      | (with_reducible refine ⟨fun _ => ?_, fun _ => ?_⟩)
      | (with_reducible refine And.intro ?_ ?_)
      | (with_reducible intro _)
      | (with_reducible exact is_in _)
      | (simp -implicitDefEqProofs only [SD, SF, SL, e_nf, reduceCtorEq, implies_true, ↓reduceIte, Nat.reduceEqDiff, Nat.reduceAdd, Nat.reduceMul, Nat.reduceSub, Nat.reduceLeDiff, Nat.reduceLT, Int.reduceLT, Int.reduceLE, Int.reduceEq, Int.reduceToNat, Int.reduceAdd, Int.reduceSub, Int.reduceNeg, Int.reduceBEq, Int.reduceBNe, Nat.reduceBEq, Int.cast_ofNat_Int, decide_true, decide_false, ne_eq, eq_self_iff_true, beq_eq_false_iff_ne, bne_iff_ne, List.replicate, encFl, *]))))
    all_goals (first | (simp_all; done) | (simp_all; omega) | trace_state)


end Go.Proofs.Ytamcbdflmephdaa.E
