/-
  FiC3: walks of functions of the program at data level.
-/
import Derived.Test.YtamcbdflmephdaaProg
import Derived.Test.YtamcbdflmephdaaEngZ
import Derived.Test.YtamcbdflmephdaaFiA3
import Derived.Test.YtamcbdflmephdaaFiO
import Derived.KernelRfl
set_option linter.unusedVariables false
set_option linter.unusedSimpArgs false
namespace Go.Proofs.Ytamcbdflmephdaa.E
open Go
set_option maxHeartbeats 4000000
set_option maxRecDepth 100000
set_option linter.unusedSimpArgs false
set_option linter.unusedVariables false
attribute [local congr] c_wp c_ops c_op c_opS c_run c_runS c_dt c_seq c_blk c_loop c_S c_put c_bind c_mv c_pick c_nt c_ng c_bin c_binI c_binS c_beq c_B c_eqa c_hd c_cells c_blkK c_box c_vec c_mp c_nck c_mks c_appn c_mkm c_mput c_mlk c_mrm c_take c_ld c_ldF c_cellsK c_st c_fld c_fldv c_ix c_ixp c_ixv c_ixs c_sub c_subs c_len c_lens c_src c_dst c_ow c_app c_ext c_mm c_conv c_str c_isn c_fill c_rows c_boxo c_frz c_frzO c_frzA c_frzV c_spec c_specO c_opsP c_opP c_runP c_specP c_Z c_qretP c_fz c_fn c_gv c_cond c_res1 c_resL c_ret c_qret c_ite c_unr c_nx c_bk c_cut c_is
attribute [local irreducible] dwp

theorem short_le {f : Flt} (h : shortB f = true) : f.kinds.length ≤ 40 ∧ f.nots.length ≤ 40 ∧ f.senders.length ≤ 40 := by
  simp only [shortB, Bool.and_eq_true, decide_eq_true_eq] at h
  exact ⟨h.1.1.1, h.1.1.2, h.1.2⟩
theorem light_le {es : List Ev} (h : lightB es = true) : es.length ≤ 40 := by
  simp only [lightB, Bool.and_eq_true, decide_eq_true_eq] at h
  exact h.1
def ac3 : AC := (.seq (.ops [⟨(some 1), none, (.box (.t 0))⟩, ⟨(some 2), none, (.mv (.c (.bool false)))⟩]) (.seq (.seq (.ops [⟨(some 3), none, (.ld true 5 (.t 1))⟩, ⟨(some 4), none, (.call false 9 [(.t 3)])⟩, ⟨(some 5), none, (.nt (.t 4))⟩]) (.cond (.t 5) (.seq (.ops [⟨(some 6), none, (.call false 10 [])⟩, ⟨(some 2), none, (.mv (.t 6))⟩]) .ret) .skip)) (.seq (.draw (.q false ⟨(some 7), none, (.ld true 5 (.t 1))⟩ (.q false ⟨(some 9), none, (.ld true 5 (.t 1))⟩ (.op ⟨(some 8), none, (.call false 11 [(.t 7)])⟩ (.op ⟨(some 10), none, (.call false 12 [(.t 9)])⟩ (.q false ⟨(some 11), none, (.bin .eql (.t 8) (.t 10))⟩ (.q false ⟨(some 12), none, (.mv (.t 11))⟩ (.op ⟨(some 13), (some (12, true)), (.call false 10 [])⟩ (.q false ⟨(some 14), none, (.pick (.t 12) (.t 13) (.c (.bool false)))⟩ (.q false ⟨(some 2), none, (.mv (.t 14))⟩ .nil)))))))))) .ret)))
theorem tr3 : Try.f3.body.bind (trCode Try.prog) = some (strip ac3) := by kernel_rfl
theorem spec3 (f : Flt) : Spec Try.prog 3 [.fz (.agg (encFl f))] (.fz (.bool true)) := by
  refine spec_at (n := 14) (ars := [(.t 2)]) (ac := ac3) Try.func3 (by kernel_rfl) (by kernel_rfl) tr3 (by kernel_rfl) ?_
  unfold ac3
  by_cases hs : shortB f = true
  case neg =>
    iterate 30 (all_goals (try (first
      | ((with_reducible refine of_kSpec ?_); refine call_fz (spec9 f) rfl ?_)
      | ((with_reducible refine of_kSpec ?_); refine call_fz (spec10) rfl ?_)
      | (with_reducible refine ite_in (fun _ => ?_) (fun _ => ?_))
      | (with_reducible refine ⟨fun _ => ?_, fun _ => ?_⟩)
      | (with_reducible refine And.intro ?_ ?_)
      | (with_reducible intro _)
      | (with_reducible exact is_in _)
      | (simp -implicitDefEqProofs only [SD, SF, SL, e_nf, reduceCtorEq, implies_true, ↓reduceIte, Nat.reduceEqDiff, Nat.reduceAdd, Nat.reduceMul, Nat.reduceSub, Nat.reduceLeDiff, Nat.reduceLT, Int.reduceLT, Int.reduceLE, Int.reduceEq, Int.reduceToNat, Int.reduceAdd, Int.reduceSub, Int.reduceNeg, Int.reduceBEq, Int.reduceBNe, Nat.reduceBEq, Int.cast_ofNat_Int, decide_true, decide_false, ne_eq, eq_self_iff_true, beq_eq_false_iff_ne, bne_iff_ne, List.replicate, encFl, *]))))
    all_goals (first | (simp_all; done) | (simp_all; omega) | trace_state)
  case pos =>
    obtain ⟨q1, q2, q3⟩ := short_le hs
    iterate 30 (all_goals (try (first
      | ((with_reducible refine of_kSpec ?_); refine call_fz (spec9 f) rfl ?_)
      | ((with_reducible refine of_kSpec ?_); refine call_fz (spec10) rfl ?_)
      | ((with_reducible refine of_kSpec ?_); refine call_fz (spec11 f (by omega) (by omega) (by omega)) rfl ?_)
      | ((with_reducible refine of_kSpec ?_); refine call_fz (spec12 f) rfl ?_)
      | (with_reducible refine ite_in (fun _ => ?_) (fun _ => ?_))
      | (with_reducible refine ⟨fun _ => ?_, fun _ => ?_⟩)
      | (with_reducible refine And.intro ?_ ?_)
      | (with_reducible intro _)
      | (with_reducible exact is_in _)
      | (simp -implicitDefEqProofs only [SD, SF, SL, e_nf, reduceCtorEq, implies_true, ↓reduceIte, Nat.reduceEqDiff, Nat.reduceAdd, Nat.reduceMul, Nat.reduceSub, Nat.reduceLeDiff, Nat.reduceLT, Int.reduceLT, Int.reduceLE, Int.reduceEq, Int.reduceToNat, Int.reduceAdd, Int.reduceSub, Int.reduceNeg, Int.reduceBEq, Int.reduceBNe, Nat.reduceBEq, Int.cast_ofNat_Int, decide_true, decide_false, ne_eq, eq_self_iff_true, beq_eq_false_iff_ne, bne_iff_ne, List.replicate, encFl, hs]))))
    all_goals (first | (simp_all; done) | (simp_all; omega) | trace_state)

def ac4 : AC := (.seq (.ops [⟨(some 2), none, (.box (.t 0))⟩, ⟨(some 3), none, (.box (.t 1))⟩, ⟨(some 4), none, (.mv (.c (.bool false)))⟩]) (.seq (.seq (.ops [⟨(some 5), none, (.ld true 5 (.t 2))⟩, ⟨(some 6), none, (.call false 9 [(.t 5)])⟩, ⟨(some 7), none, (.nt (.t 6))⟩, ⟨(some 8), none, (.mv (.t 7))⟩, ⟨(some 9), (some (8, false)), (.ld true 29 (.t 3))⟩, ⟨(some 10), (some (8, false)), (.buildSl 41 29 1 [(.int .i64 0), (.str []), (.str []), (.int .i64 0), (.bool false), (.str []), (.int .i64 0), (.int .i64 0), .e0, .e0, (.str []), (.int .i64 0), (.int .i64 0), (.bool false), (.str []), .e0, .e0, .e0, .e0, (.int .i64 0), (.int .i64 0), (.int .i64 0), (.int .i64 0), (.int .i64 0), (.int .i64 0), (.int .i64 0), (.int .i64 0), (.str []), (.int .i64 0)] [(0, (.t 9))])⟩, ⟨(some 11), (some (8, false)), (.call false 13 [(.t 10)])⟩, ⟨(some 12), (some (8, false)), (.nt (.t 11))⟩, ⟨(some 13), none, (.pick (.t 8) (.c (.bool true)) (.t 12))⟩]) (.cond (.t 13) (.seq (.ops [⟨(some 14), none, (.call false 10 [])⟩, ⟨(some 4), none, (.mv (.t 14))⟩]) .ret) .skip)) (.seq (.draw (.q false ⟨(some 15), none, (.ld true 5 (.t 2))⟩ (.q false ⟨(some 16), none, (.ld true 29 (.t 3))⟩ (.q false ⟨(some 18), none, (.ld true 5 (.t 2))⟩ (.q false ⟨(some 19), none, (.ld true 29 (.t 3))⟩ (.op ⟨(some 17), none, (.call false 14 [(.t 15), (.t 16)])⟩ (.op ⟨(some 20), none, (.call false 15 [(.t 18), (.t 19)])⟩ (.q false ⟨(some 21), none, (.beq false (.t 17) (.t 20))⟩ (.q false ⟨(some 22), none, (.mv (.t 21))⟩ (.op ⟨(some 23), (some (22, true)), (.call false 10 [])⟩ (.q false ⟨(some 24), none, (.pick (.t 22) (.t 23) (.c (.bool false)))⟩ (.q false ⟨(some 4), none, (.mv (.t 24))⟩ .nil)))))))))))) .ret)))
theorem tr4 : Try.f4.body.bind (trCode Try.prog) = some (strip ac4) := by kernel_rfl
theorem spec4 (f : Flt) (e : Ev) : Spec Try.prog 4 [.fz (.agg (encFl f)), .fz (.agg (encEv e))] (.fz (.bool true)) := by
  refine spec_at (n := 23) (ars := [(.t 4)]) (ac := ac4) Try.func4 (by kernel_rfl) (by kernel_rfl) tr4 (by kernel_rfl) ?_
  unfold ac4
  iterate 30 (all_goals (try (first
    | ((with_reducible refine of_kSpec ?_); refine call_fz (spec9 f) rfl ?_)
    | ((with_reducible refine of_kSpec ?_); refine call_fz (spec10) rfl ?_)
    | ((with_reducible refine of_kSpec ?_); refine call_fz (spec13 [e]) rfl ?_)
    | ((with_reducible refine of_kSpec ?_); refine call_fz (spec14 f e) rfl ?_)
    | ((with_reducible refine of_kSpec ?_); refine call_fz (spec15 f e) rfl ?_)
    | (with_reducible refine ite_in (fun _ => ?_) (fun _ => ?_))
    | (with_reducible refine ⟨fun _ => ?_, fun _ => ?_⟩)
    | (with_reducible refine And.intro ?_ ?_)
    | (with_reducible intro _)
    | (with_reducible exact is_in _)
    | (simp -implicitDefEqProofs only [SD, SF, SL, e_nf, reduceCtorEq, implies_true, ↓reduceIte, Nat.reduceEqDiff, Nat.reduceAdd, Nat.reduceMul, Nat.reduceSub, Nat.reduceLeDiff, Nat.reduceLT, Int.reduceLT, Int.reduceLE, Int.reduceEq, Int.reduceToNat, Int.reduceAdd, Int.reduceSub, Int.reduceNeg, Int.reduceBEq, Int.reduceBNe, Nat.reduceBEq, Int.cast_ofNat_Int, decide_true, decide_false, ne_eq, eq_self_iff_true, beq_eq_false_iff_ne, bne_iff_ne, List.replicate, encFl, encEv, *]))))
  all_goals (first | (simp_all; done) | (simp_all; omega) | trace_state)

end Go.Proofs.Ytamcbdflmephdaa.E
