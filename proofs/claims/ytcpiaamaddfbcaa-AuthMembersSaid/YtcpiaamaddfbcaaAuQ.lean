/-
  AuQ: walks of functions of the program at data level.
-/
import Derived.Test.YtcpiaamaddfbcaaProg
import Derived.Test.YtcpiaamaddfbcaaEngZ
import Derived.Test.YtcpiaamaddfbcaaAuO
import Derived.KernelRfl
set_option linter.unusedVariables false
set_option linter.unusedSimpArgs false
namespace Go.Proofs.Ytcpiaamaddfbcaa.E
open Go
set_option maxHeartbeats 4000000
set_option maxRecDepth 100000
set_option linter.unusedSimpArgs false
set_option linter.unusedVariables false
attribute [local congr] c_wp c_ops c_op c_opS c_run c_runS c_dt c_seq c_blk c_loop c_S c_put c_bind c_mv c_pick c_nt c_ng c_bin c_binI c_binS c_beq c_B c_eqa c_hd c_cells c_blkK c_box c_vec c_take c_ld c_ldF c_cellsK c_st c_fld c_fldv c_ix c_ixp c_ixv c_ixs c_sub c_subs c_len c_lens c_src c_dst c_ow c_app c_ext c_mm c_conv c_str c_isn c_fill c_rows c_boxo c_frz c_frzO c_frzA c_frzV c_spec c_specO c_opsP c_opP c_runP c_specP c_Z c_qretP c_fz c_fn c_gv c_cond c_res1 c_resL c_ret c_qret c_ite c_unr c_nx c_bk c_cut c_is
attribute [local irreducible] dwp
def ac15 : AC := (.seq (.ops [⟨(some 2), none, (.box (.t 0))⟩, ⟨(some 3), none, (.box (.t 1))⟩, ⟨(some 4), none, (.mv (.c (.int .i64 0)))⟩]) (.seq (.seq (.ops [⟨(some 5), none, (.ld true 29 (.t 2))⟩, ⟨(some 6), none, (.ld false 1 (.t 3))⟩, ⟨(some 7), none, (.call false 34 [(.t 5), (.t 6)])⟩]) (.cond (.t 7) (.seq (.ops [⟨(some 4), none, (.mv (.c (.int .i64 0)))⟩]) .ret) .skip)) (.seq (.ops [⟨(some 8), none, (.mkfn 35 [(.t 2), (.t 3)])⟩, ⟨(some 9), none, (.call false 26 [(.t 8)])⟩, ⟨(some 4), none, (.mv (.t 9))⟩]) .ret)))
theorem tr15 : Try.f15.body.bind (trCode Try.prog) = some (strip ac15) := by kernel_rfl
theorem spec15 (e : Ev) (es : List Ev) (ha : ∀ e ∈ es, e.allow.length ≤ 1000) (hb : ∀ e ∈ es, e.lv.users.length ≤ 1000 ∧ e.lv.kinds.length ≤ 1000) : Spec Try.prog 15 [.fz (.agg (encEv e)), .fz (.sl 29 (es.map encEv))] (.fz (.int .i64 (memR e es))) := by
  refine spec_at (n := 8) (ars := [(.t 4)]) (ac := ac15) Try.func15 (by kernel_rfl) (by kernel_rfl) tr15 (by kernel_rfl) ?_
  unfold ac15
  cases hf : firstB e es
  · have hm : memR e es = memR' e es := by simp [memR, hf]
    by_cases hp : e.key = e.sender ∨ memR' e es ≠ 0
    · have hd := spec26_pan (specP35 e es ha hb hp)
      iterate 30 (all_goals (try (first
        | ((with_reducible refine of_kSpec ?_)
           refine call_sub (ds' := [.agg (encEv e), .sl 29 (es.map encEv)]) (spec34 e es) rfl ?_ ?_
           · simp -implicitDefEqProofs only [SD, SF, SL, e_nf, reduceCtorEq, implies_true, ↓reduceIte, Nat.reduceEqDiff, Nat.reduceAdd, Nat.reduceMul, Nat.reduceSub, Nat.reduceLeDiff, Nat.reduceLT, Int.reduceLT, Int.reduceLE, Int.reduceEq, Int.reduceToNat, Int.reduceAdd, Int.reduceSub, Int.reduceNeg, Int.reduceBEq, Int.reduceBNe, Nat.reduceBEq, Int.cast_ofNat_Int, decide_true, decide_false, ne_eq, eq_self_iff_true, beq_eq_false_iff_ne, bne_iff_ne, List.replicate, encEv, *]
             done)
        | ((with_reducible refine of_kSpec ?_); refine call_fz (hd) rfl ?_)
        | (with_reducible refine ite_in (fun _ => ?_) (fun _ => ?_))
        | (with_reducible refine ⟨fun _ => ?_, fun _ => ?_⟩)
        | (with_reducible refine And.intro ?_ ?_)
        | (with_reducible intro _)
        | (with_reducible exact is_in _)
        | (simp -implicitDefEqProofs only [SD, SF, SL, e_nf, reduceCtorEq, implies_true, ↓reduceIte, Nat.reduceEqDiff, Nat.reduceAdd, Nat.reduceMul, Nat.reduceSub, Nat.reduceLeDiff, Nat.reduceLT, Int.reduceLT, Int.reduceLE, Int.reduceEq, Int.reduceToNat, Int.reduceAdd, Int.reduceSub, Int.reduceNeg, Int.reduceBEq, Int.reduceBNe, Nat.reduceBEq, Int.cast_ofNat_Int, decide_true, decide_false, ne_eq, eq_self_iff_true, beq_eq_false_iff_ne, bne_iff_ne, List.replicate, encEv, *]))))
    · have hd := spec26_ret (g := 35) (cap := [.pf (encEv e), .pf [.sl 29 (es.map encEv)]]) (spec35 e es ha hb hp)
      have hz : memR' e es = 0 := by simp at hp; exact hp.2
      clear hp
      iterate 30 (all_goals (try (first
        | ((with_reducible refine of_kSpec ?_)
           refine call_sub (ds' := [.agg (encEv e), .sl 29 (es.map encEv)]) (spec34 e es) rfl ?_ ?_
           · simp -implicitDefEqProofs only [SD, SF, SL, e_nf, reduceCtorEq, implies_true, ↓reduceIte, Nat.reduceEqDiff, Nat.reduceAdd, Nat.reduceMul, Nat.reduceSub, Nat.reduceLeDiff, Nat.reduceLT, Int.reduceLT, Int.reduceLE, Int.reduceEq, Int.reduceToNat, Int.reduceAdd, Int.reduceSub, Int.reduceNeg, Int.reduceBEq, Int.reduceBNe, Nat.reduceBEq, Int.cast_ofNat_Int, decide_true, decide_false, ne_eq, eq_self_iff_true, beq_eq_false_iff_ne, bne_iff_ne, List.replicate, encEv, *]
             done)
        | ((with_reducible refine of_kSpec ?_); refine call_fz (hd) rfl ?_)
        | (with_reducible refine ite_in (fun _ => ?_) (fun _ => ?_))
        | (with_reducible refine ⟨fun _ => ?_, fun _ => ?_⟩)
        | (with_reducible refine And.intro ?_ ?_)
        | (with_reducible intro _)
        | (with_reducible exact is_in _)
        | (simp -implicitDefEqProofs only [SD, SF, SL, e_nf, reduceCtorEq, implies_true, ↓reduceIte, Nat.reduceEqDiff, Nat.reduceAdd, Nat.reduceMul, Nat.reduceSub, Nat.reduceLeDiff, Nat.reduceLT, Int.reduceLT, Int.reduceLE, Int.reduceEq, Int.reduceToNat, Int.reduceAdd, Int.reduceSub, Int.reduceNeg, Int.reduceBEq, Int.reduceBNe, Nat.reduceBEq, Int.cast_ofNat_Int, decide_true, decide_false, ne_eq, eq_self_iff_true, beq_eq_false_iff_ne, bne_iff_ne, List.replicate, encEv, *]))))
  · have hm : memR e es = 0 := by simp [memR, hf]
    iterate 30 (all_goals (try (first
      | ((with_reducible refine of_kSpec ?_)
         refine call_sub (ds' := [.agg (encEv e), .sl 29 (es.map encEv)]) (spec34 e es) rfl ?_ ?_
         · simp -implicitDefEqProofs only [SD, SF, SL, e_nf, reduceCtorEq, implies_true, ↓reduceIte, Nat.reduceEqDiff, Nat.reduceAdd, Nat.reduceMul, Nat.reduceSub, Nat.reduceLeDiff, Nat.reduceLT, Int.reduceLT, Int.reduceLE, Int.reduceEq, Int.reduceToNat, Int.reduceAdd, Int.reduceSub, Int.reduceNeg, Int.reduceBEq, Int.reduceBNe, Nat.reduceBEq, Int.cast_ofNat_Int, decide_true, decide_false, ne_eq, eq_self_iff_true, beq_eq_false_iff_ne, bne_iff_ne, List.replicate, encEv, *]
           done)
      | (with_reducible refine ite_in (fun _ => ?_) (fun _ => ?_))
      | (with_reducible refine ⟨fun _ => ?_, fun _ => ?_⟩)
      | (with_reducible refine And.intro ?_ ?_)
      | (with_reducible intro _)
      | (with_reducible exact is_in _)
      | (simp -implicitDefEqProofs only [SD, SF, SL, e_nf, reduceCtorEq, implies_true, ↓reduceIte, Nat.reduceEqDiff, Nat.reduceAdd, Nat.reduceMul, Nat.reduceSub, Nat.reduceLeDiff, Nat.reduceLT, Int.reduceLT, Int.reduceLE, Int.reduceEq, Int.reduceToNat, Int.reduceAdd, Int.reduceSub, Int.reduceNeg, Int.reduceBEq, Int.reduceBNe, Nat.reduceBEq, Int.cast_ofNat_Int, decide_true, decide_false, ne_eq, eq_self_iff_true, beq_eq_false_iff_ne, bne_iff_ne, List.replicate, encEv, *]))))

def ac27 : AC := (.seq (.ops [⟨(some 5), none, (.ld false 1 (.t 0))⟩, ⟨(some 6), none, (.call false 28 [(.t 5)])⟩, ⟨(some 4), none, (.mv (.t 6))⟩, ⟨(some 7), none, (.ext (.t 4) 0)⟩, ⟨(some 8), none, (.ext (.t 4) 1)⟩, ⟨(some 2), none, (.alloc [(.int .i64 0), (.str []), (.str []), (.int .i64 0), (.bool false), (.str []), (.int .i64 0), (.int .i64 0), .e0, .e0, (.str []), (.int .i64 0), (.int .i64 0), (.bool false), (.str []), .e0, .e0, .e0, .e0, (.int .i64 0), (.int .i64 0), (.int .i64 0), (.int .i64 0), (.int .i64 0), (.int .i64 0), (.int .i64 0), (.int .i64 0), (.str []), (.int .i64 0)])⟩, ⟨none, none, (.sto 29 (.t 2) (.t 7))⟩, ⟨(some 3), none, (.mv (.t 8))⟩]) (.seq (.seq (.ops [⟨(some 9), none, (.fld 3 (.t 1))⟩, ⟨(some 10), none, (.ld false 1 (.t 9))⟩, ⟨(some 11), none, (.bin .eql (.t 10) (.c (.int .i64 1)))⟩]) (.cond (.t 11) (.seq (.drawp (.q false ⟨(some 12), none, (.mv (.t 3))⟩ (.q false ⟨(some 13), none, (.nt (.t 12))⟩ (.q false ⟨(some 14), none, (.mv (.t 13))⟩ (.q false ⟨(some 15), (some (14, true)), (.fld 2 (.t 1))⟩ (.q false ⟨(some 16), (some (14, true)), (.ld false 1 (.t 15))⟩ (.q false ⟨(some 18), (some (14, true)), (.fld 1 (.t 1))⟩ (.q false ⟨(some 19), (some (14, true)), (.ld false 1 (.t 18))⟩ (.op ⟨(some 17), (some (14, true)), (.call false 30 [(.t 16)])⟩ (.op ⟨(some 20), (some (14, true)), (.call false 30 [(.t 19)])⟩ (.q false ⟨(some 21), (some (14, true)), (.bin .eql (.t 17) (.t 20))⟩ (.q false ⟨(some 22), none, (.pick (.t 14) (.t 21) (.c (.bool false)))⟩ .nil))))))))))) ⟨(some 23), none, (.call false 29 [(.t 22), (.c (.int .i64 17))])⟩) (.opsp [⟨(some 24), none, (.call false 31 [(.c (.int .i64 0))])⟩])) .skip)) (.seq (.opsp [⟨(some 25), none, (.mv (.t 3))⟩, ⟨(some 26), none, (.call false 29 [(.t 25), (.c (.int .i64 17))])⟩]) (.seq (.seq (.ops [⟨(some 27), none, (.fld 3 (.t 1))⟩, ⟨(some 28), none, (.ld false 1 (.t 27))⟩, ⟨(some 29), none, (.bin .eql (.t 28) (.c (.int .i64 2)))⟩]) (.cond (.t 29) (.opsp [⟨(some 30), none, (.ld true 29 (.t 1))⟩, ⟨(some 31), none, (.ld false 1 (.t 0))⟩, ⟨(some 32), none, (.call false 15 [(.t 30), (.t 31)])⟩, ⟨(some 33), none, (.call false 31 [(.t 32)])⟩]) .skip)) (.seq (.opsp [⟨(some 34), none, (.ld false 1 (.t 0))⟩, ⟨(some 35), none, (.fld 2 (.t 1))⟩, ⟨(some 36), none, (.ld false 1 (.t 35))⟩, ⟨(some 37), none, (.call false 32 [(.t 34), (.t 36)])⟩, ⟨(some 38), none, (.bin .eql (.t 37) (.c (.int .i64 3)))⟩, ⟨(some 39), none, (.call false 29 [(.t 38), (.c (.int .i64 18))])⟩]) (.opsp [⟨(some 40), none, (.ld true 29 (.t 1))⟩, ⟨(some 41), none, (.ld false 1 (.t 0))⟩, ⟨(some 42), none, (.call false 17 [(.t 40), (.t 41)])⟩, ⟨(some 43), none, (.call false 31 [(.t 42)])⟩]))))))
theorem tr27 : Try.f27.body.bind (trCode Try.prog) = some (strip ac27) := by kernel_rfl
theorem specP27 (e : Ev) (es : List Ev) (ha : ∀ e ∈ es, e.allow.length ≤ 1000) (hb : ∀ e ∈ es, e.lv.users.length ≤ 1000 ∧ e.lv.kinds.length ≤ 1000) (hs : e.sender.length ≤ 1000 ∧ e.room.length ≤ 1000) : SpecP Try.prog 27 [(.pf [.sl 29 (es.map encEv)]), (.pf (encEv e))] (verdD (allR e es)) := by
  refine specP_at (n := 42) (ac := ac27) Try.func27 (by kernel_rfl) (by kernel_rfl) tr27 ?_
  unfold ac27
  iterate 60 (all_goals (try (first
    | (with_reducible refine need_call ?_)
    | (with_reducible refine callP_pan (specP31 _) rfl ?_)
    | (with_reducible refine callP_ret ?_)
    | ((with_reducible refine of_kSpec ?_); refine call_fz (spec28 es) rfl ?_)
    | ((with_reducible refine of_kSpec ?_); refine call_fz (spec30 e.sender hs.1) rfl ?_)
    | ((with_reducible refine of_kSpec ?_); refine call_fz (spec30 e.room hs.2) rfl ?_)
    | ((with_reducible refine of_kSpec ?_)
       refine call_sub (ds' := [.agg (encEv e), .sl 29 (es.map encEv)]) (spec15 e es ha hb) rfl ?_ ?_
       · simp -implicitDefEqProofs only [SD, SF, SL, e_nf, reduceCtorEq, implies_true, ↓reduceIte, Nat.reduceEqDiff, Nat.reduceAdd, Nat.reduceMul, Nat.reduceSub, Nat.reduceLeDiff, Nat.reduceLT, Int.reduceLT, Int.reduceLE, Int.reduceEq, Int.reduceToNat, Int.reduceAdd, Int.reduceSub, Int.reduceNeg, Int.reduceBEq, Int.reduceBNe, Nat.reduceBEq, Int.cast_ofNat_Int, decide_true, decide_false, ne_eq, eq_self_iff_true, beq_eq_false_iff_ne, bne_iff_ne, List.replicate, encEv, *]
         done)
    | ((with_reducible refine of_kSpec ?_); refine call_fz (spec32 es _) rfl ?_)
    | ((with_reducible refine of_kSpec ?_)
       refine call_sub (ds' := [.agg (encEv e), .sl 29 (es.map encEv)]) (spec17 e es hb) rfl ?_ ?_
       · simp -implicitDefEqProofs only [SD, SF, SL, e_nf, reduceCtorEq, implies_true, ↓reduceIte, Nat.reduceEqDiff, Nat.reduceAdd, Nat.reduceMul, Nat.reduceSub, Nat.reduceLeDiff, Nat.reduceLT, Int.reduceLT, Int.reduceLE, Int.reduceEq, Int.reduceToNat, Int.reduceAdd, Int.reduceSub, Int.reduceNeg, Int.reduceBEq, Int.reduceBNe, Nat.reduceBEq, Int.cast_ofNat_Int, decide_true, decide_false, ne_eq, eq_self_iff_true, beq_eq_false_iff_ne, bne_iff_ne, List.replicate, encEv, *]
         done)
    | ((with_reducible refine of_kSpec ?_); refine call_fz (spec29 _) rfl ?_)
    | (with_reducible refine ite_in (fun _ => ?_) (fun _ => ?_))
    | (with_reducible refine ⟨fun _ => ?_, fun _ => ?_⟩)
    | (with_reducible refine And.intro ?_ ?_)
    | (with_reducible intro _)
    | (with_reducible exact is_in _)
    | ((with_reducible refine eq_in ?_); ((first | (simp_all [allR]; done) | grind [allR])); done)
    | (simp -implicitDefEqProofs only [SD, SF, SL, e_nf, reduceCtorEq, implies_true, ↓reduceIte, Nat.reduceEqDiff, Nat.reduceAdd, Nat.reduceMul, Nat.reduceSub, Nat.reduceLeDiff, Nat.reduceLT, Int.reduceLT, Int.reduceLE, Int.reduceEq, Int.reduceToNat, Int.reduceAdd, Int.reduceSub, Int.reduceNeg, Int.reduceBEq, Int.reduceBNe, Nat.reduceBEq, Int.cast_ofNat_Int, decide_true, decide_false, ne_eq, eq_self_iff_true, beq_eq_false_iff_ne, bne_iff_ne, List.replicate, encEv, verd_sub, *]))))
  all_goals ((first | (simp_all [allR]; done) | grind [allR]))
def ac13 : AC := (.seq (.ops [⟨(some 2), none, (.box (.t 0))⟩, ⟨(some 3), none, (.box (.t 1))⟩, ⟨(some 4), none, (.mv (.c (.int .i64 0)))⟩]) (.seq (.ops [⟨(some 5), none, (.mkfn 27 [(.t 3), (.t 2)])⟩, ⟨(some 6), none, (.call false 26 [(.t 5)])⟩, ⟨(some 4), none, (.mv (.t 6))⟩]) .ret))
theorem tr13 : Try.f13.body.bind (trCode Try.prog) = some (strip ac13) := by kernel_rfl
theorem spec13 (e : Ev) (es : List Ev) (ha : ∀ e ∈ es, e.allow.length ≤ 1000) (hb : ∀ e ∈ es, e.lv.users.length ≤ 1000 ∧ e.lv.kinds.length ≤ 1000) (hs : e.sender.length ≤ 1000 ∧ e.room.length ≤ 1000) : Spec Try.prog 13 [.fz (.agg (encEv e)), .fz (.sl 29 (es.map encEv))] (.fz (.int .i64 (allR e es))) := by
  refine spec_at (n := 5) (ars := [(.t 4)]) (ac := ac13) Try.func13 (by kernel_rfl) (by kernel_rfl) tr13 (by kernel_rfl) ?_
  unfold ac13
  have hd := spec26_pan (specP27 e es ha hb hs)
  iterate 30 (all_goals (try (first
    | ((with_reducible refine of_kSpec ?_); refine call_fz (hd) rfl ?_)
    | (with_reducible refine ite_in (fun _ => ?_) (fun _ => ?_))
    | (with_reducible refine ⟨fun _ => ?_, fun _ => ?_⟩)
    | (with_reducible refine And.intro ?_ ?_)
    | (with_reducible intro _)
    | (with_reducible exact is_in _)
    | (simp -implicitDefEqProofs only [SD, SF, SL, e_nf, reduceCtorEq, implies_true, ↓reduceIte, Nat.reduceEqDiff, Nat.reduceAdd, Nat.reduceMul, Nat.reduceSub, Nat.reduceLeDiff, Nat.reduceLT, Int.reduceLT, Int.reduceLE, Int.reduceEq, Int.reduceToNat, Int.reduceAdd, Int.reduceSub, Int.reduceNeg, Int.reduceBEq, Int.reduceBNe, Nat.reduceBEq, Int.cast_ofNat_Int, decide_true, decide_false, ne_eq, eq_self_iff_true, beq_eq_false_iff_ne, bne_iff_ne, List.replicate, encEv, *]))))


end Go.Proofs.Ytcpiaamaddfbcaa.E
