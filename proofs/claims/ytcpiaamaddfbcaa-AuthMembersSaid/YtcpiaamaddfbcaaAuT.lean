/-
  AuT: walks of functions of the program at data level.
-/
import Derived.Test.YtcpiaamaddfbcaaProg
import Derived.Test.YtcpiaamaddfbcaaEngZ
import Derived.Test.YtcpiaamaddfbcaaAuS
import Derived.KernelRfl
set_option linter.unusedVariables false
set_option linter.unusedSimpArgs false
namespace Go.Proofs.Ytcpiaamaddfbcaa.E
open Go
set_option maxHeartbeats 4000000
set_option maxRecDepth 100000
set_option linter.unusedSimpArgs false
set_option linter.unusedVariables false
attribute [local congr] c_wp c_ops c_op c_opS c_run c_runS c_dt c_seq c_blk c_loop c_S c_put c_bind c_mv c_pick c_nt c_ng c_bin c_binI c_binS c_beq c_B c_eqa c_hd c_cells c_blkK c_box c_vec c_take c_ld c_ldF c_cellsK c_st c_fld c_fldv c_ix c_ixp c_ixv c_ixs c_sub c_subs c_len c_lens c_src c_dst c_ow c_app c_ext c_mm c_conv c_str c_isn c_fill c_rows c_boxo c_frz c_frzO c_frzA c_frzV c_spec c_specO c_opsP c_opP c_runP c_specP c_Z c_qretP c_fz c_fn c_gv c_cond c_res1 c_resL c_ret c_qret c_ite c_unr c_nx c_bk c_cut c_is
attribute [local irreducible] dwp

theorem find_mem : ∀ (es : List Ev) (k : Int) (e : Ev), findL es k = some e → e ∈ es
  | [], _, _, h => by simp [findL] at h
  | x :: es, k, e, h => by
    unfold findL at h
    by_cases hk : x.kind = k
    · rw [if_pos hk] at h
      injection h with h
      rw [h]
      simp
    · rw [if_neg hk] at h
      exact List.mem_cons_of_mem _ (find_mem es k e h)
theorem brief_b {e : Ev} (h : briefB e = true) : (e.sender.length ≤ 1000 ∧ e.room.length ≤ 1000) ∧ e.allow.length ≤ 1000 ∧ e.lv.users.length ≤ 1000 ∧ e.lv.kinds.length ≤ 1000 := by
  simp only [briefB, decide_eq_true_eq] at h
  omega
theorem few_b {es : List Ev} (h : fewB es = true) : (∀ e ∈ es, e.allow.length ≤ 1000) ∧ (∀ e ∈ es, e.lv.users.length ≤ 1000 ∧ e.lv.kinds.length ≤ 1000) ∧ (levelsL es).kinds.length ≤ 1000 ∧ es.length ≤ 40 := by
  simp only [fewB, Bool.and_eq_true, decide_eq_true_eq, List.all_eq_true] at h
  have hb : ∀ e ∈ es, e.lv.users.length ≤ 1000 ∧ e.lv.kinds.length ≤ 1000 := fun e he => (brief_b (h.2 e he)).2.2
  refine ⟨fun e he => (brief_b (h.2 e he)).2.1, hb, ?_, h.1⟩
  unfold levelsL
  cases hf : findL es 3 with
  | none => simp [dflt]
  | some e => exact (hb e (find_mem es 3 e hf)).2
def ac3 : AC := (.seq (.ops [⟨(some 2), none, (.box (.t 0))⟩, ⟨(some 4), none, (.mv (.c (.bool false)))⟩]) (.seq (.seq (.ops [⟨(some 5), none, (.ld true 29 (.t 2))⟩, ⟨(some 6), none, (.call false 10 [(.t 5)])⟩, ⟨(some 7), none, (.nt (.t 6))⟩, ⟨(some 8), none, (.mv (.t 7))⟩, ⟨(some 9), (some (8, false)), (.mv (.t 1))⟩, ⟨(some 10), (some (8, false)), (.call false 11 [(.t 9)])⟩, ⟨(some 11), (some (8, false)), (.nt (.t 10))⟩, ⟨(some 12), none, (.pick (.t 8) (.c (.bool true)) (.t 11))⟩]) (.cond (.t 12) (.seq (.ops [⟨(some 13), none, (.call false 12 [])⟩, ⟨(some 4), none, (.mv (.t 13))⟩]) .ret) .skip)) (.seq (.draw (.q false ⟨(some 14), none, (.ld true 29 (.t 2))⟩ (.q false ⟨(some 15), none, (.mv (.t 1))⟩ (.q false ⟨(some 17), none, (.ld true 29 (.t 2))⟩ (.q false ⟨(some 18), none, (.mv (.t 1))⟩ (.op ⟨(some 16), none, (.call false 13 [(.t 14), (.t 15)])⟩ (.op ⟨(some 19), none, (.call false 14 [(.t 17), (.t 18)])⟩ (.q false ⟨(some 20), none, (.bin .eql (.t 16) (.t 19))⟩ (.q false ⟨(some 21), none, (.mv (.t 20))⟩ (.op ⟨(some 22), (some (21, true)), (.call false 12 [])⟩ (.q false ⟨(some 23), none, (.pick (.t 21) (.t 22) (.c (.bool false)))⟩ (.q false ⟨(some 4), none, (.mv (.t 23))⟩ .nil)))))))))))) .ret)))
theorem tr3 : Try.f3.body.bind (trCode Try.prog) = some (strip ac3) := by kernel_rfl
theorem spec3 (e : Ev) (es : List Ev) : Spec Try.prog 3 [.fz (.agg (encEv e)), .fz (.sl 29 (es.map encEv))] (.fz (.bool true)) := by
  refine spec_at (n := 22) (ars := [(.t 4)]) (ac := ac3) Try.func3 (by kernel_rfl) (by kernel_rfl) tr3 (by kernel_rfl) ?_
  unfold ac3
  cases hbe : briefB e
  · skip
    iterate 30 (all_goals (try (first
      | ((with_reducible refine of_kSpec ?_)
         refine call_sub (ds' := [.agg (encEv e)]) (spec10 e) rfl ?_ ?_
         · simp -implicitDefEqProofs only [SD, SF, SL, e_nf, reduceCtorEq, implies_true, ↓reduceIte, Nat.reduceEqDiff, Nat.reduceAdd, Nat.reduceMul, Nat.reduceSub, Nat.reduceLeDiff, Nat.reduceLT, Int.reduceLT, Int.reduceLE, Int.reduceEq, Int.reduceToNat, Int.reduceAdd, Int.reduceSub, Int.reduceNeg, Int.reduceBEq, Int.reduceBNe, Nat.reduceBEq, Int.cast_ofNat_Int, decide_true, decide_false, ne_eq, eq_self_iff_true, beq_eq_false_iff_ne, bne_iff_ne, List.replicate, encEv, *]
           done)
      | ((with_reducible refine of_kSpec ?_); refine call_fz (spec11 es) rfl ?_)
      | ((with_reducible refine of_kSpec ?_); refine call_fz (spec12) rfl ?_)
      | (with_reducible refine ite_in (fun _ => ?_) (fun _ => ?_))
      | (with_reducible refine ⟨fun _ => ?_, fun _ => ?_⟩)
      | (with_reducible refine And.intro ?_ ?_)
      | (with_reducible intro _)
      | (with_reducible exact is_in _)
      | (simp -implicitDefEqProofs only [SD, SF, SL, e_nf, reduceCtorEq, implies_true, ↓reduceIte, Nat.reduceEqDiff, Nat.reduceAdd, Nat.reduceMul, Nat.reduceSub, Nat.reduceLeDiff, Nat.reduceLT, Int.reduceLT, Int.reduceLE, Int.reduceEq, Int.reduceToNat, Int.reduceAdd, Int.reduceSub, Int.reduceNeg, Int.reduceBEq, Int.reduceBNe, Nat.reduceBEq, Int.cast_ofNat_Int, decide_true, decide_false, ne_eq, eq_self_iff_true, beq_eq_false_iff_ne, bne_iff_ne, List.replicate, encEv, *]))))
  cases hfe : fewB es
  · skip
    iterate 30 (all_goals (try (first
      | ((with_reducible refine of_kSpec ?_)
         refine call_sub (ds' := [.agg (encEv e)]) (spec10 e) rfl ?_ ?_
         · simp -implicitDefEqProofs only [SD, SF, SL, e_nf, reduceCtorEq, implies_true, ↓reduceIte, Nat.reduceEqDiff, Nat.reduceAdd, Nat.reduceMul, Nat.reduceSub, Nat.reduceLeDiff, Nat.reduceLT, Int.reduceLT, Int.reduceLE, Int.reduceEq, Int.reduceToNat, Int.reduceAdd, Int.reduceSub, Int.reduceNeg, Int.reduceBEq, Int.reduceBNe, Nat.reduceBEq, Int.cast_ofNat_Int, decide_true, decide_false, ne_eq, eq_self_iff_true, beq_eq_false_iff_ne, bne_iff_ne, List.replicate, encEv, *]
           done)
      | ((with_reducible refine of_kSpec ?_); refine call_fz (spec11 es) rfl ?_)
      | ((with_reducible refine of_kSpec ?_); refine call_fz (spec12) rfl ?_)
      | (with_reducible refine ite_in (fun _ => ?_) (fun _ => ?_))
      | (with_reducible refine ⟨fun _ => ?_, fun _ => ?_⟩)
      | (with_reducible refine And.intro ?_ ?_)
      | (with_reducible intro _)
      | (with_reducible exact is_in _)
      | (simp -implicitDefEqProofs only [SD, SF, SL, e_nf, reduceCtorEq, implies_true, ↓reduceIte, Nat.reduceEqDiff, Nat.reduceAdd, Nat.reduceMul, Nat.reduceSub, Nat.reduceLeDiff, Nat.reduceLT, Int.reduceLT, Int.reduceLE, Int.reduceEq, Int.reduceToNat, Int.reduceAdd, Int.reduceSub, Int.reduceNeg, Int.reduceBEq, Int.reduceBNe, Nat.reduceBEq, Int.cast_ofNat_Int, decide_true, decide_false, ne_eq, eq_self_iff_true, beq_eq_false_iff_ne, bne_iff_ne, List.replicate, encEv, *]))))
  obtain ⟨hs, hae, hbe1, hk⟩ := brief_b hbe
  obtain ⟨ha, hb, hL, h40⟩ := few_b hfe
  iterate 40 (all_goals (try (first
    | ((with_reducible refine of_kSpec ?_)
       refine call_sub (ds' := [.agg (encEv e)]) (spec10 e) rfl ?_ ?_
       · simp -implicitDefEqProofs only [SD, SF, SL, e_nf, reduceCtorEq, implies_true, ↓reduceIte, Nat.reduceEqDiff, Nat.reduceAdd, Nat.reduceMul, Nat.reduceSub, Nat.reduceLeDiff, Nat.reduceLT, Int.reduceLT, Int.reduceLE, Int.reduceEq, Int.reduceToNat, Int.reduceAdd, Int.reduceSub, Int.reduceNeg, Int.reduceBEq, Int.reduceBNe, Nat.reduceBEq, Int.cast_ofNat_Int, decide_true, decide_false, ne_eq, eq_self_iff_true, beq_eq_false_iff_ne, bne_iff_ne, List.replicate, encEv, *]
         done)
    | ((with_reducible refine of_kSpec ?_); refine call_fz (spec11 es) rfl ?_)
    | ((with_reducible refine of_kSpec ?_); refine call_fz (spec12) rfl ?_)
    | ((with_reducible refine of_kSpec ?_)
       refine call_sub (ds' := [.agg (encEv e), .sl 29 (es.map encEv)]) (spec13 e es ha hb hs) rfl ?_ ?_
       · simp -implicitDefEqProofs only [SD, SF, SL, e_nf, reduceCtorEq, implies_true, ↓reduceIte, Nat.reduceEqDiff, Nat.reduceAdd, Nat.reduceMul, Nat.reduceSub, Nat.reduceLeDiff, Nat.reduceLT, Int.reduceLT, Int.reduceLE, Int.reduceEq, Int.reduceToNat, Int.reduceAdd, Int.reduceSub, Int.reduceNeg, Int.reduceBEq, Int.reduceBNe, Nat.reduceBEq, Int.cast_ofNat_Int, decide_true, decide_false, ne_eq, eq_self_iff_true, beq_eq_false_iff_ne, bne_iff_ne, List.replicate, encEv, *]
         done)
    | ((with_reducible refine of_kSpec ?_)
       refine call_sub (ds' := [.agg (encEv e), .sl 29 (es.map encEv)]) (spec14 e es ha hb hk hL hs) rfl ?_ ?_
       · simp -implicitDefEqProofs only [SD, SF, SL, e_nf, reduceCtorEq, implies_true, ↓reduceIte, Nat.reduceEqDiff, Nat.reduceAdd, Nat.reduceMul, Nat.reduceSub, Nat.reduceLeDiff, Nat.reduceLT, Int.reduceLT, Int.reduceLE, Int.reduceEq, Int.reduceToNat, Int.reduceAdd, Int.reduceSub, Int.reduceNeg, Int.reduceBEq, Int.reduceBNe, Nat.reduceBEq, Int.cast_ofNat_Int, decide_true, decide_false, ne_eq, eq_self_iff_true, beq_eq_false_iff_ne, bne_iff_ne, List.replicate, encEv, *]
         done)
    | (with_reducible refine ite_in (fun _ => ?_) (fun _ => ?_))
    | (with_reducible refine ⟨fun _ => ?_, fun _ => ?_⟩)
    | (with_reducible refine And.intro ?_ ?_)
    | (with_reducible intro _)
    | (with_reducible exact is_in _)
    | ((with_reducible refine eq_in ?_); (simp); done)
    | (simp -implicitDefEqProofs only [SD, SF, SL, e_nf, reduceCtorEq, implies_true, ↓reduceIte, Nat.reduceEqDiff, Nat.reduceAdd, Nat.reduceMul, Nat.reduceSub, Nat.reduceLeDiff, Nat.reduceLT, Int.reduceLT, Int.reduceLE, Int.reduceEq, Int.reduceToNat, Int.reduceAdd, Int.reduceSub, Int.reduceNeg, Int.reduceBEq, Int.reduceBNe, Nat.reduceBEq, Int.cast_ofNat_Int, decide_true, decide_false, ne_eq, eq_self_iff_true, beq_eq_false_iff_ne, bne_iff_ne, List.replicate, encEv, *]))))

def ac4 : AC := (.seq (.ops [⟨(some 2), none, (.box (.t 0))⟩, ⟨(some 4), none, (.mv (.c (.bool false)))⟩]) (.seq (.seq (.ops [⟨(some 5), none, (.ld true 29 (.t 2))⟩, ⟨(some 6), none, (.call false 10 [(.t 5)])⟩, ⟨(some 7), none, (.nt (.t 6))⟩, ⟨(some 8), none, (.mv (.t 7))⟩, ⟨(some 9), (some (8, false)), (.mv (.t 1))⟩, ⟨(some 10), (some (8, false)), (.call false 11 [(.t 9)])⟩, ⟨(some 11), (some (8, false)), (.nt (.t 10))⟩, ⟨(some 12), none, (.pick (.t 8) (.c (.bool true)) (.t 11))⟩]) (.cond (.t 12) (.seq (.ops [⟨(some 13), none, (.call false 12 [])⟩, ⟨(some 4), none, (.mv (.t 13))⟩]) .ret) .skip)) (.seq (.draw (.q false ⟨(some 14), none, (.ld true 29 (.t 2))⟩ (.q false ⟨(some 15), none, (.mv (.t 1))⟩ (.q false ⟨(some 17), none, (.ld true 29 (.t 2))⟩ (.q false ⟨(some 18), none, (.mv (.t 1))⟩ (.op ⟨(some 16), none, (.call false 15 [(.t 14), (.t 15)])⟩ (.op ⟨(some 19), none, (.call false 16 [(.t 17), (.t 18)])⟩ (.q false ⟨(some 20), none, (.bin .eql (.t 16) (.t 19))⟩ (.q false ⟨(some 21), none, (.mv (.t 20))⟩ (.op ⟨(some 22), (some (21, true)), (.call false 12 [])⟩ (.q false ⟨(some 23), none, (.pick (.t 21) (.t 22) (.c (.bool false)))⟩ (.q false ⟨(some 4), none, (.mv (.t 23))⟩ .nil)))))))))))) .ret)))
theorem tr4 : Try.f4.body.bind (trCode Try.prog) = some (strip ac4) := by kernel_rfl
theorem spec4 (e : Ev) (es : List Ev) : Spec Try.prog 4 [.fz (.agg (encEv e)), .fz (.sl 29 (es.map encEv))] (.fz (.bool true)) := by
  refine spec_at (n := 22) (ars := [(.t 4)]) (ac := ac4) Try.func4 (by kernel_rfl) (by kernel_rfl) tr4 (by kernel_rfl) ?_
  unfold ac4
  cases hbe : briefB e
  · skip
    iterate 30 (all_goals (try (first
      | ((with_reducible refine of_kSpec ?_)
         refine call_sub (ds' := [.agg (encEv e)]) (spec10 e) rfl ?_ ?_
         · simp -implicitDefEqProofs only [SD, SF, SL, e_nf, reduceCtorEq, implies_true, ↓reduceIte, Nat.reduceEqDiff, Nat.reduceAdd, Nat.reduceMul, Nat.reduceSub, Nat.reduceLeDiff, Nat.reduceLT, Int.reduceLT, Int.reduceLE, Int.reduceEq, Int.reduceToNat, Int.reduceAdd, Int.reduceSub, Int.reduceNeg, Int.reduceBEq, Int.reduceBNe, Nat.reduceBEq, Int.cast_ofNat_Int, decide_true, decide_false, ne_eq, eq_self_iff_true, beq_eq_false_iff_ne, bne_iff_ne, List.replicate, encEv, *]
           done)
      | ((with_reducible refine of_kSpec ?_); refine call_fz (spec11 es) rfl ?_)
      | ((with_reducible refine of_kSpec ?_); refine call_fz (spec12) rfl ?_)
      | (with_reducible refine ite_in (fun _ => ?_) (fun _ => ?_))
      | (with_reducible refine ⟨fun _ => ?_, fun _ => ?_⟩)
      | (with_reducible refine And.intro ?_ ?_)
      | (with_reducible intro _)
      | (with_reducible exact is_in _)
      | (simp -implicitDefEqProofs only [SD, SF, SL, e_nf, reduceCtorEq, implies_true, ↓reduceIte, Nat.reduceEqDiff, Nat.reduceAdd, Nat.reduceMul, Nat.reduceSub, Nat.reduceLeDiff, Nat.reduceLT, Int.reduceLT, Int.reduceLE, Int.reduceEq, Int.reduceToNat, Int.reduceAdd, Int.reduceSub, Int.reduceNeg, Int.reduceBEq, Int.reduceBNe, Nat.reduceBEq, Int.cast_ofNat_Int, decide_true, decide_false, ne_eq, eq_self_iff_true, beq_eq_false_iff_ne, bne_iff_ne, List.replicate, encEv, *]))))
  cases hfe : fewB es
  · skip
    iterate 30 (all_goals (try (first
      | ((with_reducible refine of_kSpec ?_)
         refine call_sub (ds' := [.agg (encEv e)]) (spec10 e) rfl ?_ ?_
         · simp -implicitDefEqProofs only [SD, SF, SL, e_nf, reduceCtorEq, implies_true, ↓reduceIte, Nat.reduceEqDiff, Nat.reduceAdd, Nat.reduceMul, Nat.reduceSub, Nat.reduceLeDiff, Nat.reduceLT, Int.reduceLT, Int.reduceLE, Int.reduceEq, Int.reduceToNat, Int.reduceAdd, Int.reduceSub, Int.reduceNeg, Int.reduceBEq, Int.reduceBNe, Nat.reduceBEq, Int.cast_ofNat_Int, decide_true, decide_false, ne_eq, eq_self_iff_true, beq_eq_false_iff_ne, bne_iff_ne, List.replicate, encEv, *]
           done)
      | ((with_reducible refine of_kSpec ?_); refine call_fz (spec11 es) rfl ?_)
      | ((with_reducible refine of_kSpec ?_); refine call_fz (spec12) rfl ?_)
      | (with_reducible refine ite_in (fun _ => ?_) (fun _ => ?_))
      | (with_reducible refine ⟨fun _ => ?_, fun _ => ?_⟩)
      | (with_reducible refine And.intro ?_ ?_)
      | (with_reducible intro _)
      | (with_reducible exact is_in _)
      | (simp -implicitDefEqProofs only [SD, SF, SL, e_nf, reduceCtorEq, implies_true, ↓reduceIte, Nat.reduceEqDiff, Nat.reduceAdd, Nat.reduceMul, Nat.reduceSub, Nat.reduceLeDiff, Nat.reduceLT, Int.reduceLT, Int.reduceLE, Int.reduceEq, Int.reduceToNat, Int.reduceAdd, Int.reduceSub, Int.reduceNeg, Int.reduceBEq, Int.reduceBNe, Nat.reduceBEq, Int.cast_ofNat_Int, decide_true, decide_false, ne_eq, eq_self_iff_true, beq_eq_false_iff_ne, bne_iff_ne, List.replicate, encEv, *]))))
  obtain ⟨hs, hae, hbe1, hk⟩ := brief_b hbe
  obtain ⟨ha, hb, hL, h40⟩ := few_b hfe
  iterate 40 (all_goals (try (first
    | ((with_reducible refine of_kSpec ?_)
       refine call_sub (ds' := [.agg (encEv e)]) (spec10 e) rfl ?_ ?_
       · simp -implicitDefEqProofs only [SD, SF, SL, e_nf, reduceCtorEq, implies_true, ↓reduceIte, Nat.reduceEqDiff, Nat.reduceAdd, Nat.reduceMul, Nat.reduceSub, Nat.reduceLeDiff, Nat.reduceLT, Int.reduceLT, Int.reduceLE, Int.reduceEq, Int.reduceToNat, Int.reduceAdd, Int.reduceSub, Int.reduceNeg, Int.reduceBEq, Int.reduceBNe, Nat.reduceBEq, Int.cast_ofNat_Int, decide_true, decide_false, ne_eq, eq_self_iff_true, beq_eq_false_iff_ne, bne_iff_ne, List.replicate, encEv, *]
         done)
    | ((with_reducible refine of_kSpec ?_); refine call_fz (spec11 es) rfl ?_)
    | ((with_reducible refine of_kSpec ?_); refine call_fz (spec12) rfl ?_)
    | ((with_reducible refine of_kSpec ?_)
       refine call_sub (ds' := [.agg (encEv e), .sl 29 (es.map encEv)]) (spec15 e es ha hb) rfl ?_ ?_
       · simp -implicitDefEqProofs only [SD, SF, SL, e_nf, reduceCtorEq, implies_true, ↓reduceIte, Nat.reduceEqDiff, Nat.reduceAdd, Nat.reduceMul, Nat.reduceSub, Nat.reduceLeDiff, Nat.reduceLT, Int.reduceLT, Int.reduceLE, Int.reduceEq, Int.reduceToNat, Int.reduceAdd, Int.reduceSub, Int.reduceNeg, Int.reduceBEq, Int.reduceBNe, Nat.reduceBEq, Int.cast_ofNat_Int, decide_true, decide_false, ne_eq, eq_self_iff_true, beq_eq_false_iff_ne, bne_iff_ne, List.replicate, encEv, *]
         done)
    | ((with_reducible refine of_kSpec ?_)
       refine call_sub (ds' := [.agg (encEv e), .sl 29 (es.map encEv)]) (spec16 e es ha) rfl ?_ ?_
       · simp -implicitDefEqProofs only [SD, SF, SL, e_nf, reduceCtorEq, implies_true, ↓reduceIte, Nat.reduceEqDiff, Nat.reduceAdd, Nat.reduceMul, Nat.reduceSub, Nat.reduceLeDiff, Nat.reduceLT, Int.reduceLT, Int.reduceLE, Int.reduceEq, Int.reduceToNat, Int.reduceAdd, Int.reduceSub, Int.reduceNeg, Int.reduceBEq, Int.reduceBNe, Nat.reduceBEq, Int.cast_ofNat_Int, decide_true, decide_false, ne_eq, eq_self_iff_true, beq_eq_false_iff_ne, bne_iff_ne, List.replicate, encEv, *]
         done)
    | (with_reducible refine ite_in (fun _ => ?_) (fun _ => ?_))
    | (with_reducible refine ⟨fun _ => ?_, fun _ => ?_⟩)
    | (with_reducible refine And.intro ?_ ?_)
    | (with_reducible intro _)
    | (with_reducible exact is_in _)
    | ((with_reducible refine eq_in ?_); (simp); done)
    | (simp -implicitDefEqProofs only [SD, SF, SL, e_nf, reduceCtorEq, implies_true, ↓reduceIte, Nat.reduceEqDiff, Nat.reduceAdd, Nat.reduceMul, Nat.reduceSub, Nat.reduceLeDiff, Nat.reduceLT, Int.reduceLT, Int.reduceLE, Int.reduceEq, Int.reduceToNat, Int.reduceAdd, Int.reduceSub, Int.reduceNeg, Int.reduceBEq, Int.reduceBNe, Nat.reduceBEq, Int.cast_ofNat_Int, decide_true, decide_false, ne_eq, eq_self_iff_true, beq_eq_false_iff_ne, bne_iff_ne, List.replicate, encEv, *]))))

def ac5 : AC := (.seq (.ops [⟨(some 2), none, (.box (.t 0))⟩, ⟨(some 4), none, (.mv (.c (.bool false)))⟩]) (.seq (.seq (.ops [⟨(some 5), none, (.ld true 29 (.t 2))⟩, ⟨(some 6), none, (.call false 10 [(.t 5)])⟩, ⟨(some 7), none, (.nt (.t 6))⟩, ⟨(some 8), none, (.mv (.t 7))⟩, ⟨(some 9), (some (8, false)), (.mv (.t 1))⟩, ⟨(some 10), (some (8, false)), (.call false 11 [(.t 9)])⟩, ⟨(some 11), (some (8, false)), (.nt (.t 10))⟩, ⟨(some 12), none, (.pick (.t 8) (.c (.bool true)) (.t 11))⟩]) (.cond (.t 12) (.seq (.ops [⟨(some 13), none, (.call false 12 [])⟩, ⟨(some 4), none, (.mv (.t 13))⟩]) .ret) .skip)) (.seq (.draw (.q false ⟨(some 14), none, (.ld true 29 (.t 2))⟩ (.q false ⟨(some 15), none, (.mv (.t 1))⟩ (.q false ⟨(some 17), none, (.ld true 29 (.t 2))⟩ (.q false ⟨(some 18), none, (.mv (.t 1))⟩ (.op ⟨(some 16), none, (.call false 17 [(.t 14), (.t 15)])⟩ (.op ⟨(some 19), none, (.call false 18 [(.t 17), (.t 18)])⟩ (.q false ⟨(some 20), none, (.bin .eql (.t 16) (.t 19))⟩ (.q false ⟨(some 21), none, (.mv (.t 20))⟩ (.op ⟨(some 22), (some (21, true)), (.call false 12 [])⟩ (.q false ⟨(some 23), none, (.pick (.t 21) (.t 22) (.c (.bool false)))⟩ (.q false ⟨(some 4), none, (.mv (.t 23))⟩ .nil)))))))))))) .ret)))
theorem tr5 : Try.f5.body.bind (trCode Try.prog) = some (strip ac5) := by kernel_rfl
theorem spec5 (e : Ev) (es : List Ev) : Spec Try.prog 5 [.fz (.agg (encEv e)), .fz (.sl 29 (es.map encEv))] (.fz (.bool true)) := by
  refine spec_at (n := 22) (ars := [(.t 4)]) (ac := ac5) Try.func5 (by kernel_rfl) (by kernel_rfl) tr5 (by kernel_rfl) ?_
  unfold ac5
  cases hbe : briefB e
  · skip
    iterate 30 (all_goals (try (first
      | ((with_reducible refine of_kSpec ?_)
         refine call_sub (ds' := [.agg (encEv e)]) (spec10 e) rfl ?_ ?_
         · simp -implicitDefEqProofs only [SD, SF, SL, e_nf, reduceCtorEq, implies_true, ↓reduceIte, Nat.reduceEqDiff, Nat.reduceAdd, Nat.reduceMul, Nat.reduceSub, Nat.reduceLeDiff, Nat.reduceLT, Int.reduceLT, Int.reduceLE, Int.reduceEq, Int.reduceToNat, Int.reduceAdd, Int.reduceSub, Int.reduceNeg, Int.reduceBEq, Int.reduceBNe, Nat.reduceBEq, Int.cast_ofNat_Int, decide_true, decide_false, ne_eq, eq_self_iff_true, beq_eq_false_iff_ne, bne_iff_ne, List.replicate, encEv, *]
           done)
      | ((with_reducible refine of_kSpec ?_); refine call_fz (spec11 es) rfl ?_)
      | ((with_reducible refine of_kSpec ?_); refine call_fz (spec12) rfl ?_)
      | (with_reducible refine ite_in (fun _ => ?_) (fun _ => ?_))
      | (with_reducible refine ⟨fun _ => ?_, fun _ => ?_⟩)
      | (with_reducible refine And.intro ?_ ?_)
      | (with_reducible intro _)
      | (with_reducible exact is_in _)
      | (simp -implicitDefEqProofs only [SD, SF, SL, e_nf, reduceCtorEq, implies_true, ↓reduceIte, Nat.reduceEqDiff, Nat.reduceAdd, Nat.reduceMul, Nat.reduceSub, Nat.reduceLeDiff, Nat.reduceLT, Int.reduceLT, Int.reduceLE, Int.reduceEq, Int.reduceToNat, Int.reduceAdd, Int.reduceSub, Int.reduceNeg, Int.reduceBEq, Int.reduceBNe, Nat.reduceBEq, Int.cast_ofNat_Int, decide_true, decide_false, ne_eq, eq_self_iff_true, beq_eq_false_iff_ne, bne_iff_ne, List.replicate, encEv, *]))))
  cases hfe : fewB es
  · skip
    iterate 30 (all_goals (try (first
      | ((with_reducible refine of_kSpec ?_)
         refine call_sub (ds' := [.agg (encEv e)]) (spec10 e) rfl ?_ ?_
         · simp -implicitDefEqProofs only [SD, SF, SL, e_nf, reduceCtorEq, implies_true, ↓reduceIte, Nat.reduceEqDiff, Nat.reduceAdd, Nat.reduceMul, Nat.reduceSub, Nat.reduceLeDiff, Nat.reduceLT, Int.reduceLT, Int.reduceLE, Int.reduceEq, Int.reduceToNat, Int.reduceAdd, Int.reduceSub, Int.reduceNeg, Int.reduceBEq, Int.reduceBNe, Nat.reduceBEq, Int.cast_ofNat_Int, decide_true, decide_false, ne_eq, eq_self_iff_true, beq_eq_false_iff_ne, bne_iff_ne, List.replicate, encEv, *]
           done)
      | ((with_reducible refine of_kSpec ?_); refine call_fz (spec11 es) rfl ?_)
      | ((with_reducible refine of_kSpec ?_); refine call_fz (spec12) rfl ?_)
      | (with_reducible refine ite_in (fun _ => ?_) (fun _ => ?_))
      | (with_reducible refine ⟨fun _ => ?_, fun _ => ?_⟩)
      | (with_reducible refine And.intro ?_ ?_)
      | (with_reducible intro _)
      | (with_reducible exact is_in _)
      | (simp -implicitDefEqProofs only [SD, SF, SL, e_nf, reduceCtorEq, implies_true, ↓reduceIte, Nat.reduceEqDiff, Nat.reduceAdd, Nat.reduceMul, Nat.reduceSub, Nat.reduceLeDiff, Nat.reduceLT, Int.reduceLT, Int.reduceLE, Int.reduceEq, Int.reduceToNat, Int.reduceAdd, Int.reduceSub, Int.reduceNeg, Int.reduceBEq, Int.reduceBNe, Nat.reduceBEq, Int.cast_ofNat_Int, decide_true, decide_false, ne_eq, eq_self_iff_true, beq_eq_false_iff_ne, bne_iff_ne, List.replicate, encEv, *]))))
  obtain ⟨hs, hae, hbe1, hk⟩ := brief_b hbe
  obtain ⟨ha, hb, hL, h40⟩ := few_b hfe
  iterate 40 (all_goals (try (first
    | ((with_reducible refine of_kSpec ?_)
       refine call_sub (ds' := [.agg (encEv e)]) (spec10 e) rfl ?_ ?_
       · simp -implicitDefEqProofs only [SD, SF, SL, e_nf, reduceCtorEq, implies_true, ↓reduceIte, Nat.reduceEqDiff, Nat.reduceAdd, Nat.reduceMul, Nat.reduceSub, Nat.reduceLeDiff, Nat.reduceLT, Int.reduceLT, Int.reduceLE, Int.reduceEq, Int.reduceToNat, Int.reduceAdd, Int.reduceSub, Int.reduceNeg, Int.reduceBEq, Int.reduceBNe, Nat.reduceBEq, Int.cast_ofNat_Int, decide_true, decide_false, ne_eq, eq_self_iff_true, beq_eq_false_iff_ne, bne_iff_ne, List.replicate, encEv, *]
         done)
    | ((with_reducible refine of_kSpec ?_); refine call_fz (spec11 es) rfl ?_)
    | ((with_reducible refine of_kSpec ?_); refine call_fz (spec12) rfl ?_)
    | ((with_reducible refine of_kSpec ?_)
       refine call_sub (ds' := [.agg (encEv e), .sl 29 (es.map encEv)]) (spec17 e es hb) rfl ?_ ?_
       · simp -implicitDefEqProofs only [SD, SF, SL, e_nf, reduceCtorEq, implies_true, ↓reduceIte, Nat.reduceEqDiff, Nat.reduceAdd, Nat.reduceMul, Nat.reduceSub, Nat.reduceLeDiff, Nat.reduceLT, Int.reduceLT, Int.reduceLE, Int.reduceEq, Int.reduceToNat, Int.reduceAdd, Int.reduceSub, Int.reduceNeg, Int.reduceBEq, Int.reduceBNe, Nat.reduceBEq, Int.cast_ofNat_Int, decide_true, decide_false, ne_eq, eq_self_iff_true, beq_eq_false_iff_ne, bne_iff_ne, List.replicate, encEv, *]
         done)
    | ((with_reducible refine of_kSpec ?_)
       refine call_sub (ds' := [.agg (encEv e), .sl 29 (es.map encEv)]) (spec18 e es hb hk hL) rfl ?_ ?_
       · simp -implicitDefEqProofs only [SD, SF, SL, e_nf, reduceCtorEq, implies_true, ↓reduceIte, Nat.reduceEqDiff, Nat.reduceAdd, Nat.reduceMul, Nat.reduceSub, Nat.reduceLeDiff, Nat.reduceLT, Int.reduceLT, Int.reduceLE, Int.reduceEq, Int.reduceToNat, Int.reduceAdd, Int.reduceSub, Int.reduceNeg, Int.reduceBEq, Int.reduceBNe, Nat.reduceBEq, Int.cast_ofNat_Int, decide_true, decide_false, ne_eq, eq_self_iff_true, beq_eq_false_iff_ne, bne_iff_ne, List.replicate, encEv, *]
         done)
    | (with_reducible refine ite_in (fun _ => ?_) (fun _ => ?_))
    | (with_reducible refine ⟨fun _ => ?_, fun _ => ?_⟩)
    | (with_reducible refine And.intro ?_ ?_)
    | (with_reducible intro _)
    | (with_reducible exact is_in _)
    | ((with_reducible refine eq_in ?_); (simp); done)
    | (simp -implicitDefEqProofs only [SD, SF, SL, e_nf, reduceCtorEq, implies_true, ↓reduceIte, Nat.reduceEqDiff, Nat.reduceAdd, Nat.reduceMul, Nat.reduceSub, Nat.reduceLeDiff, Nat.reduceLT, Int.reduceLT, Int.reduceLE, Int.reduceEq, Int.reduceToNat, Int.reduceAdd, Int.reduceSub, Int.reduceNeg, Int.reduceBEq, Int.reduceBNe, Nat.reduceBEq, Int.cast_ofNat_Int, decide_true, decide_false, ne_eq, eq_self_iff_true, beq_eq_false_iff_ne, bne_iff_ne, List.replicate, encEv, *]))))


theorem bans1 {e : Ev} {es : List Ev} (hk : ¬ e.kind = 1) (h : memberL es e.sender = 4) : ¬ allR e es = 0 := by
  by_cases h2 : e.kind = 2
  · by_cases hc : hasCre es = false
    · simp [allR, hk, hc]
    · simp only [allR, hk, hc, h2, if_true, if_false]
      by_cases hf : firstB e es = true
      · have : e.key = e.sender := by
          simp only [firstB, Bool.and_eq_true, decide_eq_true_eq] at hf
          rw [hf.1.1.2, hf.1.1.1.2]
        have hm : hasMem es e.key = false := by
          simp only [firstB, Bool.and_eq_true, Bool.not_eq_true'] at hf
          exact hf.2
        have hz : ∀ (l : List Ev) (u : List UInt8), hasMem l u = false → memberL l u = 0 := by
          intro l u
          induction l with
          | nil => intro _; rfl
          | cons x l ih =>
            unfold hasMem memberL
            by_cases hx : x.kind = 2 ∧ x.key = u <;> simp [hx]
            simpa using ih
        rw [← this, hz _ _ hm] at h
        cases h
      · simp only [memR, hf, if_false]
        unfold memR'
        by_cases hs : e.key = e.sender
        · simp [hs, h]
        · simp only [hs, false_and, if_false, othR, h]
          split <;> simp
  · by_cases hc : hasCre es = false <;> simp [allR, hk, hc, h2, h]
theorem bans2 {e : Ev} {es : List Ev} (hk : ¬ e.kind = 1) (h : ¬ memberL es e.sender = 3) (h2 : ¬ e.kind = 2) : ¬ allR e es = 0 := by
  by_cases hc : hasCre es = false <;> simp [allR, hk, hc, h2, h]
def ac6 : AC := (.seq (.ops [⟨(some 2), none, (.box (.t 0))⟩, ⟨(some 4), none, (.mv (.c (.bool false)))⟩]) (.seq (.seq (.ops [⟨(some 6), none, (.ld true 29 (.t 2))⟩, ⟨(some 7), none, (.call false 10 [(.t 6)])⟩, ⟨(some 8), none, (.nt (.t 7))⟩, ⟨(some 9), none, (.mv (.t 8))⟩, ⟨(some 10), (some (9, false)), (.mv (.t 1))⟩, ⟨(some 11), (some (9, false)), (.call false 11 [(.t 10)])⟩, ⟨(some 12), (some (9, false)), (.nt (.t 11))⟩, ⟨(some 13), none, (.pick (.t 9) (.c (.bool true)) (.t 12))⟩, ⟨(some 14), none, (.mv (.t 13))⟩, ⟨(some 15), (some (14, false)), (.fld 3 (.t 2))⟩, ⟨(some 16), (some (14, false)), (.ld false 1 (.t 15))⟩, ⟨(some 17), (some (14, false)), (.bin .eql (.t 16) (.c (.int .i64 1)))⟩, ⟨(some 18), none, (.pick (.t 14) (.c (.bool true)) (.t 17))⟩]) (.cond (.t 18) (.seq (.ops [⟨(some 19), none, (.call false 12 [])⟩, ⟨(some 4), none, (.mv (.t 19))⟩]) .ret) .skip)) (.seq (.ops [⟨(some 20), none, (.mv (.t 1))⟩, ⟨(some 21), none, (.fld 2 (.t 2))⟩, ⟨(some 22), none, (.ld false 1 (.t 21))⟩, ⟨(some 23), none, (.call false 19 [(.t 20), (.t 22)])⟩, ⟨(some 5), none, (.mv (.t 23))⟩]) (.seq (.seq (.ops [⟨(some 24), none, (.mv (.t 5))⟩, ⟨(some 25), none, (.bin .eql (.t 24) (.c (.int .i64 4)))⟩, ⟨(some 26), none, (.mv (.t 25))⟩, ⟨(some 27), (some (26, false)), (.mv (.t 5))⟩, ⟨(some 28), (some (26, false)), (.bin .neq (.t 27) (.c (.int .i64 3)))⟩, ⟨(some 29), (some (26, false)), (.mv (.t 28))⟩, ⟨(some 30), (some (29, true)), (.fld 3 (.t 2))⟩, ⟨(some 31), (some (29, true)), (.ld false 1 (.t 30))⟩, ⟨(some 32), (some (29, true)), (.bin .neq (.t 31) (.c (.int .i64 2)))⟩, ⟨(some 33), (some (26, false)), (.pick (.t 29) (.t 32) (.c (.bool false)))⟩, ⟨(some 34), none, (.pick (.t 26) (.c (.bool true)) (.t 33))⟩]) (.cond (.t 34) (.seq (.ops [⟨(some 35), none, (.ld true 29 (.t 2))⟩, ⟨(some 36), none, (.mv (.t 1))⟩, ⟨(some 37), none, (.call false 13 [(.t 35), (.t 36)])⟩, ⟨(some 38), none, (.bin .neq (.t 37) (.c (.int .i64 0)))⟩, ⟨(some 39), none, (.mv (.t 38))⟩, ⟨(some 40), (some (39, true)), (.call false 12 [])⟩, ⟨(some 41), none, (.pick (.t 39) (.t 40) (.c (.bool false)))⟩, ⟨(some 4), none, (.mv (.t 41))⟩]) .ret) .skip)) (.seq (.ops [⟨(some 42), none, (.call false 12 [])⟩, ⟨(some 4), none, (.mv (.t 42))⟩]) .ret)))))
theorem tr6 : Try.f6.body.bind (trCode Try.prog) = some (strip ac6) := by kernel_rfl
theorem spec6 (e : Ev) (es : List Ev) : Spec Try.prog 6 [.fz (.agg (encEv e)), .fz (.sl 29 (es.map encEv))] (.fz (.bool true)) := by
  refine spec_at (n := 41) (ars := [(.t 4)]) (ac := ac6) Try.func6 (by kernel_rfl) (by kernel_rfl) tr6 (by kernel_rfl) ?_
  unfold ac6
  cases hbe : briefB e
  · skip
    iterate 30 (all_goals (try (first
      | ((with_reducible refine of_kSpec ?_)
         refine call_sub (ds' := [.agg (encEv e)]) (spec10 e) rfl ?_ ?_
         · simp -implicitDefEqProofs only [SD, SF, SL, e_nf, reduceCtorEq, implies_true, ↓reduceIte, Nat.reduceEqDiff, Nat.reduceAdd, Nat.reduceMul, Nat.reduceSub, Nat.reduceLeDiff, Nat.reduceLT, Int.reduceLT, Int.reduceLE, Int.reduceEq, Int.reduceToNat, Int.reduceAdd, Int.reduceSub, Int.reduceNeg, Int.reduceBEq, Int.reduceBNe, Nat.reduceBEq, Int.cast_ofNat_Int, decide_true, decide_false, ne_eq, eq_self_iff_true, beq_eq_false_iff_ne, bne_iff_ne, List.replicate, encEv, *]
           done)
      | ((with_reducible refine of_kSpec ?_); refine call_fz (spec11 es) rfl ?_)
      | ((with_reducible refine of_kSpec ?_); refine call_fz (spec12) rfl ?_)
      | (with_reducible refine ite_in (fun _ => ?_) (fun _ => ?_))
      | (with_reducible refine ⟨fun _ => ?_, fun _ => ?_⟩)
      | (with_reducible refine And.intro ?_ ?_)
      | (with_reducible intro _)
      | (with_reducible exact is_in _)
      | (simp -implicitDefEqProofs only [SD, SF, SL, e_nf, reduceCtorEq, implies_true, ↓reduceIte, Nat.reduceEqDiff, Nat.reduceAdd, Nat.reduceMul, Nat.reduceSub, Nat.reduceLeDiff, Nat.reduceLT, Int.reduceLT, Int.reduceLE, Int.reduceEq, Int.reduceToNat, Int.reduceAdd, Int.reduceSub, Int.reduceNeg, Int.reduceBEq, Int.reduceBNe, Nat.reduceBEq, Int.cast_ofNat_Int, decide_true, decide_false, ne_eq, eq_self_iff_true, beq_eq_false_iff_ne, bne_iff_ne, List.replicate, encEv, *]))))
  cases hfe : fewB es
  · skip
    iterate 30 (all_goals (try (first
      | ((with_reducible refine of_kSpec ?_)
         refine call_sub (ds' := [.agg (encEv e)]) (spec10 e) rfl ?_ ?_
         · simp -implicitDefEqProofs only [SD, SF, SL, e_nf, reduceCtorEq, implies_true, ↓reduceIte, Nat.reduceEqDiff, Nat.reduceAdd, Nat.reduceMul, Nat.reduceSub, Nat.reduceLeDiff, Nat.reduceLT, Int.reduceLT, Int.reduceLE, Int.reduceEq, Int.reduceToNat, Int.reduceAdd, Int.reduceSub, Int.reduceNeg, Int.reduceBEq, Int.reduceBNe, Nat.reduceBEq, Int.cast_ofNat_Int, decide_true, decide_false, ne_eq, eq_self_iff_true, beq_eq_false_iff_ne, bne_iff_ne, List.replicate, encEv, *]
           done)
      | ((with_reducible refine of_kSpec ?_); refine call_fz (spec11 es) rfl ?_)
      | ((with_reducible refine of_kSpec ?_); refine call_fz (spec12) rfl ?_)
      | (with_reducible refine ite_in (fun _ => ?_) (fun _ => ?_))
      | (with_reducible refine ⟨fun _ => ?_, fun _ => ?_⟩)
      | (with_reducible refine And.intro ?_ ?_)
      | (with_reducible intro _)
      | (with_reducible exact is_in _)
      | (simp -implicitDefEqProofs only [SD, SF, SL, e_nf, reduceCtorEq, implies_true, ↓reduceIte, Nat.reduceEqDiff, Nat.reduceAdd, Nat.reduceMul, Nat.reduceSub, Nat.reduceLeDiff, Nat.reduceLT, Int.reduceLT, Int.reduceLE, Int.reduceEq, Int.reduceToNat, Int.reduceAdd, Int.reduceSub, Int.reduceNeg, Int.reduceBEq, Int.reduceBNe, Nat.reduceBEq, Int.cast_ofNat_Int, decide_true, decide_false, ne_eq, eq_self_iff_true, beq_eq_false_iff_ne, bne_iff_ne, List.replicate, encEv, *]))))
  obtain ⟨hs, hae, hbe1, hk⟩ := brief_b hbe
  obtain ⟨ha, hb, hL, h40⟩ := few_b hfe
  iterate 40 (all_goals (try (first
    | ((with_reducible refine of_kSpec ?_)
       refine call_sub (ds' := [.agg (encEv e)]) (spec10 e) rfl ?_ ?_
       · simp -implicitDefEqProofs only [SD, SF, SL, e_nf, reduceCtorEq, implies_true, ↓reduceIte, Nat.reduceEqDiff, Nat.reduceAdd, Nat.reduceMul, Nat.reduceSub, Nat.reduceLeDiff, Nat.reduceLT, Int.reduceLT, Int.reduceLE, Int.reduceEq, Int.reduceToNat, Int.reduceAdd, Int.reduceSub, Int.reduceNeg, Int.reduceBEq, Int.reduceBNe, Nat.reduceBEq, Int.cast_ofNat_Int, decide_true, decide_false, ne_eq, eq_self_iff_true, beq_eq_false_iff_ne, bne_iff_ne, List.replicate, encEv, *]
         done)
    | ((with_reducible refine of_kSpec ?_); refine call_fz (spec11 es) rfl ?_)
    | ((with_reducible refine of_kSpec ?_); refine call_fz (spec12) rfl ?_)
    | ((with_reducible refine of_kSpec ?_)
       refine call_sub (ds' := [.agg (encEv e), .sl 29 (es.map encEv)]) (spec13 e es ha hb hs) rfl ?_ ?_
       · simp -implicitDefEqProofs only [SD, SF, SL, e_nf, reduceCtorEq, implies_true, ↓reduceIte, Nat.reduceEqDiff, Nat.reduceAdd, Nat.reduceMul, Nat.reduceSub, Nat.reduceLeDiff, Nat.reduceLT, Int.reduceLT, Int.reduceLE, Int.reduceEq, Int.reduceToNat, Int.reduceAdd, Int.reduceSub, Int.reduceNeg, Int.reduceBEq, Int.reduceBNe, Nat.reduceBEq, Int.cast_ofNat_Int, decide_true, decide_false, ne_eq, eq_self_iff_true, beq_eq_false_iff_ne, bne_iff_ne, List.replicate, encEv, *]
         done)
    | ((with_reducible refine of_kSpec ?_); refine call_fz (spec19 es _) rfl ?_)
    | (with_reducible refine ite_in (fun _ => ?_) (fun _ => ?_))
    | (with_reducible refine ⟨fun _ => ?_, fun _ => ?_⟩)
    | (with_reducible refine And.intro ?_ ?_)
    | (with_reducible intro _)
    | (with_reducible exact is_in _)
    | ((with_reducible refine eq_in ?_); (simp_all); done)
    | (simp -implicitDefEqProofs only [SD, SF, SL, e_nf, reduceCtorEq, implies_true, ↓reduceIte, Nat.reduceEqDiff, Nat.reduceAdd, Nat.reduceMul, Nat.reduceSub, Nat.reduceLeDiff, Nat.reduceLT, Int.reduceLT, Int.reduceLE, Int.reduceEq, Int.reduceToNat, Int.reduceAdd, Int.reduceSub, Int.reduceNeg, Int.reduceBEq, Int.reduceBNe, Nat.reduceBEq, Int.cast_ofNat_Int, decide_true, decide_false, ne_eq, eq_self_iff_true, beq_eq_false_iff_ne, bne_iff_ne, List.replicate, encEv, *]))))
  all_goals (first | exact bans1 (by assumption) (by assumption) (by assumption) | exact bans2 (by assumption) (by assumption) (by assumption) (by assumption))


end Go.Proofs.Ytcpiaamaddfbcaa.E
