/-
  AuK: walks of functions of the program at data level.
-/
import Derived.Test.YtcpiaamaddfbcaaProg
import Derived.Test.YtcpiaamaddfbcaaEngZ
import Derived.Test.YtcpiaamaddfbcaaAuP
import Derived.Test.YtcpiaamaddfbcaaAuJ
import Derived.Test.YtcpiaamaddfbcaaAuF
import Derived.Test.YtcpiaamaddfbcaaAuB
import Derived.KernelRfl
set_option linter.unusedVariables false
set_option linter.unusedSimpArgs false
namespace Go.Proofs.Ytcpiaamaddfbcaa.E
open Go
set_option maxHeartbeats 4000000
set_option maxRecDepth 100000
set_option linter.unusedSimpArgs false
set_option linter.unusedVariables false
attribute [local congr] c_wp c_ops c_op c_opS c_run c_runS c_dt c_seq c_blk c_loop c_S c_put c_bind c_mv c_pick c_nt c_ng c_bin c_binI c_binS c_beq c_B c_eqa c_hd c_cells c_blkK c_box c_vec c_take c_ld c_ldF c_cellsK c_st c_fld c_fldv c_ix c_ixp c_ixv c_ixs c_sub c_subs c_len c_lens c_src c_dst c_ow c_app c_ext c_mm c_conv c_str c_isn c_fill c_rows c_boxo c_frz c_frzO c_frzA c_frzV c_spec c_specO c_opsP c_opP c_runP c_specP c_Z c_qretP c_fz c_fn c_gv c_cond c_res1 c_resL c_ret c_qret c_ite c_unr c_nx c_bk c_cut c_is
attribute [local irreducible] dwp

theorem verd_sub (x y : Int) : subD (verdD x) (verdD y) = (x = y) := by
  apply propext
  simp only [verdD, subD, hOth]
  constructor
  · intro h
    simp at h
    first | exact h | exact h.symm
  · rintro rfl
    exact .inl rfl
def ac29 : AC := (.seq (.ops [⟨(some 4), none, (.mv (.t 0))⟩, ⟨(some 5), none, (.nt (.t 4))⟩]) (.cond (.t 5) (.opsp [⟨(some 6), none, (.mv (.t 1))⟩, ⟨(some 7), none, (.call false 31 [(.t 6)])⟩]) .skip))
theorem tr29 : Try.f29.body.bind (trCode Try.prog) = some (strip ac29) := by kernel_rfl
theorem spec29 (x : Int) : Spec Try.prog 29 [.fz (.bool true), .fz (.int .i64 x)] (.fz (.tup [])) := by
  refine spec_at (n := 6) (ars := []) (ac := ac29) Try.func29 (by kernel_rfl) (by kernel_rfl) tr29 (by kernel_rfl) ?_
  unfold ac29
  iterate 30 (all_goals (try (first
    | (with_reducible refine ite_in (fun _ => ?_) (fun _ => ?_))
    | (with_reducible refine ⟨fun _ => ?_, fun _ => ?_⟩)
    | (with_reducible refine And.intro ?_ ?_)
    | (with_reducible intro _)
    | (with_reducible exact is_in _)
    | (simp -implicitDefEqProofs only [SD, SF, SL, e_nf, reduceCtorEq, implies_true, ↓reduceIte, Nat.reduceEqDiff, Nat.reduceAdd, Nat.reduceMul, Nat.reduceSub, Nat.reduceLeDiff, Nat.reduceLT, Int.reduceLT, Int.reduceLE, Int.reduceEq, Int.reduceToNat, Int.reduceAdd, Int.reduceSub, Int.reduceNeg, Int.reduceBEq, Int.reduceBNe, Nat.reduceBEq, Int.cast_ofNat_Int, decide_true, decide_false, ne_eq, eq_self_iff_true, beq_eq_false_iff_ne, bne_iff_ne, List.replicate, *]))))
theorem specP29 (x : Int) : SpecP Try.prog 29 [(.bool false), (.int .i64 x)] (verdD x) := by
  refine specP_at (n := 6) (ac := ac29) Try.func29 (by kernel_rfl) (by kernel_rfl) tr29 ?_
  unfold ac29
  iterate 30 (all_goals (try (first
    | (refine callP_pan (specP31 x) rfl ?_)
    | (with_reducible refine ite_in (fun _ => ?_) (fun _ => ?_))
    | (with_reducible refine ⟨fun _ => ?_, fun _ => ?_⟩)
    | (with_reducible refine And.intro ?_ ?_)
    | (with_reducible intro _)
    | (with_reducible exact is_in _)
    | (simp -implicitDefEqProofs only [SD, SF, SL, e_nf, reduceCtorEq, implies_true, ↓reduceIte, Nat.reduceEqDiff, Nat.reduceAdd, Nat.reduceMul, Nat.reduceSub, Nat.reduceLeDiff, Nat.reduceLT, Int.reduceLT, Int.reduceLE, Int.reduceEq, Int.reduceToNat, Int.reduceAdd, Int.reduceSub, Int.reduceNeg, Int.reduceBEq, Int.reduceBNe, Nat.reduceBEq, Int.cast_ofNat_Int, decide_true, decide_false, ne_eq, eq_self_iff_true, beq_eq_false_iff_ne, bne_iff_ne, List.replicate, verd_sub, *]))))

theorem need_call {b : Bool} {x : Int} {dst : Option Nat} {s : DS} {K : DS → Prop} {Z : DV → DS → Prop} (h : kIte (b = true) (kSpec Try.prog 29 [.bool true, .int .i64 x] dst s K) (Z (verdD x) s)) : kSpecP Try.prog 29 [.bool b, .int .i64 x] dst s K Z := by
  cases b with
  | true => exact callP_ret (h.1 rfl)
  | false => exact callP_pan (specP29 x) rfl (h.2 (by simp))

end Go.Proofs.Ytcpiaamaddfbcaa.E
