/-
  AuU: walks of functions of the program at data level.
-/
import Derived.Test.YtcpiaamaddfbcaaProg
import Derived.Test.YtcpiaamaddfbcaaEngZ
import Derived.Test.YtcpiaamaddfbcaaAuS
import Derived.Test.YtcpiaamaddfbcaaAuT
import Derived.KernelRfl
set_option linter.unusedVariables false
set_option linter.unusedSimpArgs false
namespace Go.Proofs.Ytcpiaamaddfbcaa.E
open Go
set_option maxHeartbeats 4000000
set_option maxRecDepth 100000
set_option linter.unusedSimpArgs false
set_option linter.unusedVariables false
attribute [local congr] c_wp c_ops c_op c_opS c_run c_runS c_dt c_seq c_blk c_loop c_S c_put c_bind c_mv c_pick c_nt c_ng c_bin c_binI c_binS c_beq c_B c_eqa c_hd c_cells c_blkK c_box c_vec c_take c_ld c_ldF c_cellsK c_st c_fld c_fldv c_ix c_ixp c_ixv c_ixs c_sub c_subs c_len c_lens c_src c_dst c_ow c_app c_ext c_mm c_conv c_str c_isn c_fill c_rows c_boxo c_frz c_frzO c_frzA c_frzV c_spec c_specO c_opsP c_opP c_runP c_specP c_Z c_qretP c_fz c_fn c_gv c_cond c_res1 c_resL c_ret c_qret c_ite c_unr c_nx c_bk c_cut c_is
attribute [local irreducible] dwp

theorem first_key {e : Ev} {es : List Ev} (h : firstB e es = true) : e.key = e.sender ∧ e.sender = (creEv es).sender ∧ hasMem es e.key = false := by
  simp only [firstB, Bool.and_eq_true, decide_eq_true_eq, Bool.not_eq_true'] at h
  exact ⟨by rw [h.1.1.2, h.1.1.1.2], h.1.1.1.2, h.2⟩
theorem hm_mem : ∀ (l : List Ev) (u : List UInt8), hasMem l u = false → memberL l u = 0
  | [], _, _ => rfl
  | x :: l, u, h => by
    unfold hasMem at h
    unfold memberL
    by_cases hx : x.kind = 2 ∧ x.key = u
    · rw [if_pos hx] at h
      cases h
    · rw [if_neg hx] at h
      rw [if_neg hx]
      exact hm_mem l u h
theorem all_mem {e : Ev} {es : List Ev} (hk : e.kind = 2) (h : allR e es = 0) : firstB e es = true ∨ memR' e es = 0 := by
  by_cases hc : hasCre es = false
  · simp [allR, hk, hc] at h
  · simp only [allR, hk, hc, if_true, if_false, memR] at h
    cases hf : firstB e es
    · right
      simpa [hf] using h
    · exact .inl rfl
theorem removes1 {e : Ev} {es : List Ev} (hk : e.kind = 2) (hn : ¬ e.key = e.sender) (h4 : e.n = 0 ∨ e.n = 4) (h : allR e es = 0) : memberL es e.sender = 3 ∧ userV (levelsL es) e.key < userV (levelsL es) e.sender := by
  rcases all_mem hk h with h | h
  · exact absurd (first_key h).1 hn
  · unfold memR' at h
    simp only [hn, false_and, if_false] at h
    split at h
    · simp at h
    · unfold othR at h
      split at h
      · simp at h
      · rename_i hm
        refine ⟨by simpa using hm, ?_⟩
        rcases h4 with h4 | h4 <;> simp only [h4] at h <;> grind
theorem entries1 {e : Ev} {es : List Ev} (hk : e.kind = 2) (hn : e.n = 3) (h : allR e es = 0) : e.key = e.sender ∧ ¬ memberL es e.key = 4 ∧ (memberL es e.key = 3 ∨ memberL es e.key = 1 ∨ (rulesL es).1 = 1 ∨ e.sender = (creEv es).sender ∧ hasMem es e.key = false) := by
  rcases all_mem hk h with h | h
  · obtain ⟨h1, h2, h3⟩ := first_key h
    rw [hm_mem _ _ h3]
    exact ⟨h1, by decide, .inr (.inr (.inr ⟨h2, h3⟩))⟩
  · unfold memR' at h
    split at h
    · simp at h
    · rename_i h1
      split at h
      · simp at h
      · rename_i h2
        have hks : e.key = e.sender := by
          cases hd : decide (e.key = e.sender)
          · rw [hn, hd] at h2
            simp [moveR] at h2
          · exact of_decide_eq_true hd
        rw [if_pos hks] at h
        refine ⟨hks, fun h4 => h1 ⟨hks, h4⟩, ?_⟩
        unfold ownR joinR at h
        rw [if_pos hn] at h
        grind
theorem removes2 {e : Ev} {es : List Ev} (hk : e.kind = 2) (hn : ¬ e.key = e.sender) (h4 : e.n = 0 ∨ e.n = 4) (h : allR e es = 0) : memberL es e.sender = 3 ∧ userL (levelsL es).users e.key (levelsL es).a2 < userL (levelsL es).users e.sender (levelsL es).a2 := removes1 hk hn h4 h
def ac7 : AC := (.seq (.ops [⟨(some 2), none, (.box (.t 0))⟩, ⟨(some 4), none, (.mv (.c (.bool false)))⟩]) (.seq (.seq (.ops [⟨(some 7), none, (.ld true 29 (.t 2))⟩, ⟨(some 8), none, (.call false 10 [(.t 7)])⟩, ⟨(some 9), none, (.nt (.t 8))⟩, ⟨(some 10), none, (.mv (.t 9))⟩, ⟨(some 11), (some (10, false)), (.mv (.t 1))⟩, ⟨(some 12), (some (10, false)), (.call false 11 [(.t 11)])⟩, ⟨(some 13), (some (10, false)), (.nt (.t 12))⟩, ⟨(some 14), none, (.pick (.t 10) (.c (.bool true)) (.t 13))⟩, ⟨(some 15), none, (.mv (.t 14))⟩, ⟨(some 16), (some (15, false)), (.fld 3 (.t 2))⟩, ⟨(some 17), (some (15, false)), (.ld false 1 (.t 16))⟩, ⟨(some 18), (some (15, false)), (.bin .neq (.t 17) (.c (.int .i64 2)))⟩, ⟨(some 19), none, (.pick (.t 15) (.c (.bool true)) (.t 18))⟩, ⟨(some 20), none, (.mv (.t 19))⟩, ⟨(some 21), (some (20, false)), (.fld 5 (.t 2))⟩, ⟨(some 22), (some (20, false)), (.ld false 1 (.t 21))⟩, ⟨(some 23), (some (20, false)), (.fld 2 (.t 2))⟩, ⟨(some 24), (some (20, false)), (.ld false 1 (.t 23))⟩, ⟨(some 25), (some (20, false)), (.bin .eql (.t 22) (.t 24))⟩, ⟨(some 26), none, (.pick (.t 20) (.c (.bool true)) (.t 25))⟩, ⟨(some 27), none, (.mv (.t 26))⟩, ⟨(some 28), (some (27, false)), (.fld 10 (.t 2))⟩, ⟨(some 29), (some (27, false)), (.fld 1 (.t 28))⟩, ⟨(some 30), (some (27, false)), (.ld false 1 (.t 29))⟩, ⟨(some 31), (some (27, false)), (.bin .neq (.t 30) (.c (.int .i64 0)))⟩, ⟨(some 32), (some (27, false)), (.mv (.t 31))⟩, ⟨(some 33), (some (32, true)), (.fld 10 (.t 2))⟩, ⟨(some 34), (some (32, true)), (.fld 1 (.t 33))⟩, ⟨(some 35), (some (32, true)), (.ld false 1 (.t 34))⟩, ⟨(some 36), (some (32, true)), (.bin .neq (.t 35) (.c (.int .i64 4)))⟩, ⟨(some 37), (some (27, false)), (.pick (.t 32) (.t 36) (.c (.bool false)))⟩, ⟨(some 38), none, (.pick (.t 27) (.c (.bool true)) (.t 37))⟩, ⟨(some 39), none, (.mv (.t 38))⟩, ⟨(some 40), (some (39, false)), (.ld true 29 (.t 2))⟩, ⟨(some 41), (some (39, false)), (.mv (.t 1))⟩, ⟨(some 42), (some (39, false)), (.call false 13 [(.t 40), (.t 41)])⟩, ⟨(some 43), (some (39, false)), (.bin .neq (.t 42) (.c (.int .i64 0)))⟩, ⟨(some 44), none, (.pick (.t 39) (.c (.bool true)) (.t 43))⟩]) (.cond (.t 44) (.seq (.ops [⟨(some 45), none, (.call false 12 [])⟩, ⟨(some 4), none, (.mv (.t 45))⟩]) .ret) .skip)) (.seq (.ops [⟨(some 47), none, (.mv (.t 1))⟩, ⟨(some 48), none, (.call false 20 [(.t 47)])⟩, ⟨(some 46), none, (.mv (.t 48))⟩, ⟨(some 49), none, (.ext (.t 46) 0)⟩, ⟨(some 50), none, (.ext (.t 46) 1)⟩, ⟨(some 5), none, (.alloc [.e0, .e0, (.int .i64 0), (.int .i64 0), (.int .i64 0), (.int .i64 0), (.int .i64 0), (.int .i64 0), (.int .i64 0)])⟩, ⟨none, none, (.sto 9 (.t 5) (.t 49))⟩, ⟨(some 6), none, (.mv (.t 50))⟩]) (.seq (.draw (.q false ⟨(some 51), none, (.mv (.t 1))⟩ (.q false ⟨(some 52), none, (.fld 2 (.t 2))⟩ (.q false ⟨(some 53), none, (.ld false 1 (.t 52))⟩ (.op ⟨(some 54), none, (.call false 19 [(.t 51), (.t 53)])⟩ (.q false ⟨(some 55), none, (.bin .eql (.t 54) (.c (.int .i64 3)))⟩ (.q false ⟨(some 56), none, (.mv (.t 55))⟩ (.q false ⟨(some 57), (some (56, true)), (.ld true 9 (.t 5))⟩ (.q false ⟨(some 58), (some (56, true)), (.fld 2 (.t 2))⟩ (.q false ⟨(some 59), (some (56, true)), (.ld false 1 (.t 58))⟩ (.q false ⟨(some 61), (some (56, true)), (.ld true 9 (.t 5))⟩ (.q false ⟨(some 62), (some (56, true)), (.fld 5 (.t 2))⟩ (.q false ⟨(some 63), (some (56, true)), (.ld false 1 (.t 62))⟩ (.op ⟨(some 60), (some (56, true)), (.call false 21 [(.t 57), (.t 59)])⟩ (.op ⟨(some 64), (some (56, true)), (.call false 21 [(.t 61), (.t 63)])⟩ (.q false ⟨(some 65), (some (56, true)), (.bin .gtr (.t 60) (.t 64))⟩ (.q false ⟨(some 66), none, (.pick (.t 56) (.t 65) (.c (.bool false)))⟩ (.q false ⟨(some 67), none, (.mv (.t 66))⟩ (.op ⟨(some 68), (some (67, true)), (.call false 12 [])⟩ (.q false ⟨(some 69), none, (.pick (.t 67) (.t 68) (.c (.bool false)))⟩ (.q false ⟨(some 4), none, (.mv (.t 69))⟩ .nil))))))))))))))))))))) .ret))))
theorem tr7 : Try.f7.body.bind (trCode Try.prog) = some (strip ac7) := by kernel_rfl
theorem spec7 (e : Ev) (es : List Ev) : Spec Try.prog 7 [.fz (.agg (encEv e)), .fz (.sl 29 (es.map encEv))] (.fz (.bool true)) := by
  refine spec_at (n := 68) (ars := [(.t 4)]) (ac := ac7) Try.func7 (by kernel_rfl) (by kernel_rfl) tr7 (by kernel_rfl) ?_
  unfold ac7
  cases hbe : briefB e
  · skip
    iterate 30 (all_goals (try (first
      | ((with_reducible refine of_kSpec ?_)
         refine call_sub (ds' := [.agg (encEv e)]) (spec10 e) rfl ?_ ?_
         · simp -implicitDefEqProofs only [SD, SF, SL, e_nf, reduceCtorEq, implies_true, ↓reduceIte, Nat.reduceEqDiff, Nat.reduceAdd, Nat.reduceMul, Nat.reduceSub, Nat.reduceLeDiff, Nat.reduceLT, Int.reduceLT, Int.reduceLE, Int.reduceEq, Int.reduceToNat, Int.reduceAdd, Int.reduceSub, Int.reduceNeg, Int.reduceBEq, Int.reduceBNe, Nat.reduceBEq, Int.cast_ofNat_Int, decide_true, decide_false, ne_eq, eq_self_iff_true, beq_eq_false_iff_ne, bne_iff_ne, List.replicate, encEv, *]
           done)
      | ((with_reducible refine of_kSpec ?_); refine call_fz (spec11 es) rfl ?_)
      | ((with_reducible refine of_kSpec ?_); refine call_fz (spec12) rfl ?_)
      | (with_reducible refine ite_in (fun _ => ?_) (fun _ => ?_))
      | (with_reducible refine ⟨fun _ => ?_, fun _ => ?_⟩)
      | (with_reducible refine And.intro ?_ ?_)
      | (with_reducible intro _)
      | (with_reducible exact is_in _)
      | (simp -implicitDefEqProofs only [SD, SF, SL, e_nf, reduceCtorEq, implies_true, ↓reduceIte, Nat.reduceEqDiff, Nat.reduceAdd, Nat.reduceMul, Nat.reduceSub, Nat.reduceLeDiff, Nat.reduceLT, Int.reduceLT, Int.reduceLE, Int.reduceEq, Int.reduceToNat, Int.reduceAdd, Int.reduceSub, Int.reduceNeg, Int.reduceBEq, Int.reduceBNe, Nat.reduceBEq, Int.cast_ofNat_Int, decide_true, decide_false, ne_eq, eq_self_iff_true, beq_eq_false_iff_ne, bne_iff_ne, List.replicate, encEv, encLv, *]))))
  cases hfe : fewB es
  · skip
    iterate 30 (all_goals (try (first
      | ((with_reducible refine of_kSpec ?_)
         refine call_sub (ds' := [.agg (encEv e)]) (spec10 e) rfl ?_ ?_
         · simp -implicitDefEqProofs only [SD, SF, SL, e_nf, reduceCtorEq, implies_true, ↓reduceIte, Nat.reduceEqDiff, Nat.reduceAdd, Nat.reduceMul, Nat.reduceSub, Nat.reduceLeDiff, Nat.reduceLT, Int.reduceLT, Int.reduceLE, Int.reduceEq, Int.reduceToNat, Int.reduceAdd, Int.reduceSub, Int.reduceNeg, Int.reduceBEq, Int.reduceBNe, Nat.reduceBEq, Int.cast_ofNat_Int, decide_true, decide_false, ne_eq, eq_self_iff_true, beq_eq_false_iff_ne, bne_iff_ne, List.replicate, encEv, *]
           done)
      | ((with_reducible refine of_kSpec ?_); refine call_fz (spec11 es) rfl ?_)
      | ((with_reducible refine of_kSpec ?_); refine call_fz (spec12) rfl ?_)
      | (with_reducible refine ite_in (fun _ => ?_) (fun _ => ?_))
      | (with_reducible refine ⟨fun _ => ?_, fun _ => ?_⟩)
      | (with_reducible refine And.intro ?_ ?_)
      | (with_reducible intro _)
      | (with_reducible exact is_in _)
      | (simp -implicitDefEqProofs only [SD, SF, SL, e_nf, reduceCtorEq, implies_true, ↓reduceIte, Nat.reduceEqDiff, Nat.reduceAdd, Nat.reduceMul, Nat.reduceSub, Nat.reduceLeDiff, Nat.reduceLT, Int.reduceLT, Int.reduceLE, Int.reduceEq, Int.reduceToNat, Int.reduceAdd, Int.reduceSub, Int.reduceNeg, Int.reduceBEq, Int.reduceBNe, Nat.reduceBEq, Int.cast_ofNat_Int, decide_true, decide_false, ne_eq, eq_self_iff_true, beq_eq_false_iff_ne, bne_iff_ne, List.replicate, encEv, encLv, *]))))
  obtain ⟨hs, hae, hbe1, hk⟩ := brief_b hbe
  obtain ⟨ha, hb, hL, h40⟩ := few_b hfe
  iterate 40 (all_goals (try (first
    | ((with_reducible refine of_kSpec ?_)
       refine call_sub (ds' := [.agg (encEv e)]) (spec10 e) rfl ?_ ?_
       · simp -implicitDefEqProofs only [SD, SF, SL, e_nf, reduceCtorEq, implies_true, ↓reduceIte, Nat.reduceEqDiff, Nat.reduceAdd, Nat.reduceMul, Nat.reduceSub, Nat.reduceLeDiff, Nat.reduceLT, Int.reduceLT, Int.reduceLE, Int.reduceEq, Int.reduceToNat, Int.reduceAdd, Int.reduceSub, Int.reduceNeg, Int.reduceBEq, Int.reduceBNe, Nat.reduceBEq, Int.cast_ofNat_Int, decide_true, decide_false, ne_eq, eq_self_iff_true, beq_eq_false_iff_ne, bne_iff_ne, List.replicate, encEv, *]
         done)
    | ((with_reducible refine of_kSpec ?_); refine call_fz (spec11 es) rfl ?_)
    | ((with_reducible refine of_kSpec ?_); refine call_fz (spec12) rfl ?_)
    | ((with_reducible refine of_kSpec ?_)
       refine call_sub (ds' := [.agg (encEv e), .sl 29 (es.map encEv)]) (spec13 e es ha hb hs) rfl ?_ ?_
       · simp -implicitDefEqProofs only [SD, SF, SL, e_nf, reduceCtorEq, implies_true, ↓reduceIte, Nat.reduceEqDiff, Nat.reduceAdd, Nat.reduceMul, Nat.reduceSub, Nat.reduceLeDiff, Nat.reduceLT, Int.reduceLT, Int.reduceLE, Int.reduceEq, Int.reduceToNat, Int.reduceAdd, Int.reduceSub, Int.reduceNeg, Int.reduceBEq, Int.reduceBNe, Nat.reduceBEq, Int.cast_ofNat_Int, decide_true, decide_false, ne_eq, eq_self_iff_true, beq_eq_false_iff_ne, bne_iff_ne, List.replicate, encEv, *]
         done)
    | ((with_reducible refine of_kSpec ?_); refine call_fz (spec20 es) rfl ?_)
    | ((with_reducible refine of_kSpec ?_); refine call_fz (spec19 es _) rfl ?_)
    | ((with_reducible refine of_kSpec ?_); refine call_fz (spec21 (levelsL es) _) rfl ?_)
    | (with_reducible refine ite_in (fun _ => ?_) (fun _ => ?_))
    | (with_reducible refine ⟨fun _ => ?_, fun _ => ?_⟩)
    | (with_reducible refine And.intro ?_ ?_)
    | (with_reducible intro _)
    | (with_reducible exact is_in _)
    | ((with_reducible refine eq_in ?_); (skip); done)
    | (simp -implicitDefEqProofs only [SD, SF, SL, e_nf, reduceCtorEq, implies_true, ↓reduceIte, Nat.reduceEqDiff, Nat.reduceAdd, Nat.reduceMul, Nat.reduceSub, Nat.reduceLeDiff, Nat.reduceLT, Int.reduceLT, Int.reduceLE, Int.reduceEq, Int.reduceToNat, Int.reduceAdd, Int.reduceSub, Int.reduceNeg, Int.reduceBEq, Int.reduceBNe, Nat.reduceBEq, Int.cast_ofNat_Int, decide_true, decide_false, ne_eq, eq_self_iff_true, beq_eq_false_iff_ne, bne_iff_ne, List.replicate, encEv, encLv, *]))))
  all_goals (first
    | (obtain ⟨h1, h2⟩ := removes2 (e := e) (es := es) (by assumption) (by assumption) (by first | exact .inl (by assumption) | exact .inr (by assumption)) (by assumption)
       simp_all
       done)
    | (obtain ⟨h1, h2⟩ := removes2 (e := e) (es := es) (by assumption) (by assumption) (by first | exact .inl (by assumption) | exact .inr (by assumption)) (by assumption)
       simp_all
       omega))


end Go.Proofs.Ytcpiaamaddfbcaa.E
