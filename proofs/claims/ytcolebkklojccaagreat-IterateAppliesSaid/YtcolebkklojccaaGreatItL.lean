/-
  ItL: walks of functions of the program at data level.
-/
import Derived.Test.YtcolebkklojccaaGreatProg
import Derived.Test.YtcolebkklojccaaGreatEngZ
import Derived.Test.YtcolebkklojccaaGreatItK
import Derived.Test.YtcolebkklojccaaGreatItE
import Derived.KernelRfl
set_option linter.unusedVariables false
set_option linter.unusedSimpArgs false
namespace Go.Proofs.YtcolebkklojccaaGreat.E
open Go
set_option maxHeartbeats 4000000
set_option maxRecDepth 100000
set_option linter.unusedSimpArgs false
set_option linter.unusedVariables false
attribute [local congr] c_wp c_ops c_op c_opS c_run c_runS c_dt c_seq c_blk c_loop c_S c_put c_bind c_mv c_pick c_nt c_ng c_bin c_binI c_binS c_beq c_B c_eqa c_hd c_cells c_blkK c_box c_vec c_mp c_nck c_mks c_appn c_mkm c_mput c_mlk c_mrm c_take c_ld c_ldF c_cellsK c_st c_fld c_fldv c_ix c_ixp c_ixv c_ixs c_sub c_subs c_len c_lens c_src c_dst c_ow c_app c_ext c_mm c_conv c_str c_isn c_fill c_rows c_boxo c_frz c_frzO c_frzA c_frzV c_spec c_specO c_opsP c_opP c_runP c_specP c_Z c_qretP c_fz c_fn c_gv c_cond c_res1 c_resL c_ret c_qret c_ite c_unr c_nx c_bk c_cut c_is
attribute [local irreducible] dwp

theorem setS_cons (x : Ent) (t : List Ent) (q : Ent) : setS (x :: t) q = if bq q x = true then x :: setS t q else q :: (if precB q x = false then t else x :: t) := by
  unfold setS
  rw [List.takeWhile_cons, List.dropWhile_cons]
  cases h : bq q x <;> simp
theorem prec_key {a b y : Ent} (h : isK a b = true) : precB a y = precB b y := by
  rw [isK_iff] at h
  unfold precB
  rw [h.1, h.2]
theorem srt_set : ∀ (l : List Ent) (q : Ent), srt l → srt (setS l q)
  | [], q, _ => by
    show srt [q]
    exact List.pairwise_singleton _ _
  | x :: t, q, h => by
    obtain ⟨h1, h2⟩ := List.pairwise_cons.1 h
    rw [setS_cons]
    by_cases hb : bq q x = true
    · rw [if_pos hb]
      refine List.pairwise_cons.2 ⟨fun y hy => ?_, srt_set t q h2⟩
      rcases mem_setS hy with rfl | hy
      · exact hb
      · exact h1 y hy
    · rw [if_neg hb]
      have hb' : precB x q = false := by simpa [bq] using hb
      by_cases hp : precB q x = false
      · rw [if_pos hp]
        have hk : isK q x = true := by
          rcases prec_tri q x with h | h | h
          · rw [h] at hp; cases hp
          · exact h
          · rw [h] at hb'; cases hb'
        exact List.pairwise_cons.2 ⟨fun y hy => by rw [prec_key hk]; exact h1 y hy, h2⟩
      · rw [if_neg hp]
        have hp' : precB q x = true := by simpa using hp
        refine List.pairwise_cons.2 ⟨fun y hy => ?_, h⟩
        rcases List.mem_cons.1 hy with rfl | hy
        · exact hp'
        · exact prec_trans hp' (h1 y hy)
theorem srt_step {es : List Ev} {st : List Ent} {i : Int} (h : srt st) : srt (stepR es st i) := by
  unfold stepR
  split
  · exact h
  · split
    · exact srt_set _ _ h
    · exact h
theorem srt_apply (es : List Ev) : ∀ (ids : List Int) (st : List Ent), srt st → srt (applyR es st ids)
  | [], _, h => h
  | i :: ids, st, h => srt_apply es ids (stepR es st i) (srt_step h)
theorem step_none {es : List Ev} {st : List Ent} {i : Int} (h : es.find? (hasId i) = none) : stepR es st i = st := by
  unfold stepR
  rw [h]
theorem step_some {es : List Ev} {st : List Ent} {i : Int} {e : Ev} (h : es.find? (hasId i) = some e) : stepR es st i = if okE es st e = true then setS st ⟨e.kind, e.key, e.ident⟩ else st := by
  unfold stepR
  rw [h]
  rfl
theorem find_mem' : ∀ (es : List Ev) (k : Int) (e : Ev), findL es k = some e → e ∈ es
  | [], _, _, h => by simp [findL] at h
  | x :: es, k, e, h => by
    unfold findL at h
    by_cases hk : x.kind = k
    · rw [if_pos hk] at h
      injection h with h
      rw [h]
      simp
    · rw [if_neg hk] at h
      exact List.mem_cons_of_mem _ (find_mem' es k e h)
theorem lev_len {es : List Ev} (h : ∀ e ∈ es, e.lv.kinds.length ≤ 1000) : (levelsL es).kinds.length ≤ 1000 := by
  unfold levelsL
  cases hf : findL es 3 with
  | none => simp [dflt]
  | some e => exact h e (find_mem' es 3 e hf)
/-- what a round of the reference needs to know -/
theorem round_cases (es : List Ev) (st : List Ent) (i : Int) : (es.find? (hasId i) = none ∧ stepR es st i = st) ∨ (∃ e, es.find? (hasId i) = some e ∧ stateB e.kind = false ∧ stepR es st i = st) ∨ (∃ e, es.find? (hasId i) = some e ∧ stateB e.kind = true ∧ ¬ allR e (baseG getS es st e) = 0 ∧ stepR es st i = st) ∨ (∃ e, es.find? (hasId i) = some e ∧ stateB e.kind = true ∧ allR e (baseG getS es st e) = 0 ∧ stepR es st i = setS st ⟨e.kind, e.key, e.ident⟩) := by
  cases hf : es.find? (hasId i) with
  | none => exact .inl ⟨rfl, step_none hf⟩
  | some e =>
    right
    have hs := step_some (st := st) hf
    unfold okE at hs
    cases h1 : stateB e.kind
    · exact .inl ⟨e, rfl, h1, by rw [hs, h1]; rfl⟩
    · by_cases h2 : allR e (baseG getS es st e) = 0
      · exact .inr (.inr ⟨e, rfl, h1, h2, by rw [hs, h1, h2]; rfl⟩)
      · exact .inr (.inl ⟨e, rfl, h1, h2, by rw [hs, h1, decide_eq_false h2]; rfl⟩)
def ac8 : AC := (.seq (.ops [⟨(some 6), none, (.mv (.c .e0))⟩]) (.seq (.ops [⟨(some 11), none, (.buildSl 49 3 0 [(.int .i64 0), (.str []), (.int .i64 0)] [])⟩, ⟨(some 12), none, (.mv (.t 1))⟩, ⟨(some 13), none, (.app 49 3 32 (.t 11) (.t 12))⟩, ⟨(some 7), none, (.mv (.t 13))⟩]) (.seq (.fz 13 (.seq (.ops [⟨(some 8), none, (.mv (.c (.int .i64 0)))⟩]) (.block 0 (.loop (.seq (.seq (.ops [⟨(some 14), none, (.mv (.t 8))⟩, ⟨(some 15), none, (.mv (.t 2))⟩, ⟨(some 16), none, (.len (.t 15))⟩, ⟨(some 17), none, (.bin .lss (.t 14) (.t 16))⟩]) (.cond (.t 17) .skip (.exit 0))) (.seq (.block 1 (.seq (.ops [⟨(some 21), none, (.mv (.t 0))⟩, ⟨(some 22), none, (.mv (.t 2))⟩, ⟨(some 23), none, (.mv (.t 8))⟩, ⟨(some 24), none, (.ix 1 (.t 22) (.t 23))⟩, ⟨(some 25), none, (.ld false 1 (.t 24))⟩, ⟨(some 26), none, (.call false 17 [(.t 21), (.t 25)])⟩, ⟨(some 20), none, (.mv (.t 26))⟩, ⟨(some 27), none, (.ext (.t 20) 0)⟩, ⟨(some 28), none, (.ext (.t 20) 1)⟩, ⟨(some 9), none, (.alloc [(.int .i64 0), (.str []), (.str []), (.int .i64 0), (.bool false), (.str []), (.int .i64 0), (.int .i64 0), .e0, .e0, (.str []), (.int .i64 0), (.int .i64 0), (.bool false), (.str []), .e0, .e0, .e0, .e0, (.int .i64 0), (.int .i64 0), (.int .i64 0), (.int .i64 0), (.int .i64 0), (.int .i64 0), (.int .i64 0), (.int .i64 0), (.str []), (.int .i64 0)])⟩, ⟨none, none, (.sto 29 (.t 9) (.t 27))⟩, ⟨(some 10), none, (.mv (.t 28))⟩]) (.seq (.draw (.q false ⟨(some 29), none, (.mv (.t 10))⟩ (.q false ⟨(some 30), none, (.mv (.t 29))⟩ (.q false ⟨(some 31), (some (30, true)), (.fld 3 (.t 9))⟩ (.q false ⟨(some 32), (some (30, true)), (.ld false 1 (.t 31))⟩ (.op ⟨(some 33), (some (30, true)), (.call false 18 [(.t 32)])⟩ (.q false ⟨(some 34), none, (.pick (.t 30) (.t 33) (.c (.bool false)))⟩ (.q false ⟨(some 35), none, (.mv (.t 34))⟩ (.q false ⟨(some 36), (some (35, true)), (.ld true 29 (.t 9))⟩ (.q false ⟨(some 37), (some (35, true)), (.mv (.t 0))⟩ (.q false ⟨(some 38), (some (35, true)), (.mv (.t 7))⟩ (.q false ⟨(some 39), (some (35, true)), (.ld true 29 (.t 9))⟩ (.op ⟨(some 40), (some (35, true)), (.call false 20 [(.t 37), (.t 38), (.t 39)])⟩ (.op ⟨(some 41), (some (35, true)), (.call false 19 [(.t 36), (.t 40)])⟩ (.q false ⟨(some 42), (some (35, true)), (.bin .eql (.t 41) (.c (.int .i64 0)))⟩ (.q false ⟨(some 43), none, (.pick (.t 35) (.t 42) (.c (.bool false)))⟩ .nil)))))))))))))))) (.cond (.t 43) (.ops [⟨(some 44), none, (.mv (.t 7))⟩, ⟨(some 45), none, (.fld 3 (.t 9))⟩, ⟨(some 46), none, (.ld false 1 (.t 45))⟩, ⟨(some 47), none, (.fld 5 (.t 9))⟩, ⟨(some 48), none, (.ld false 1 (.t 47))⟩, ⟨(some 49), none, (.fld 0 (.t 9))⟩, ⟨(some 50), none, (.ld false 1 (.t 49))⟩, ⟨(some 51), none, (.call false 21 [(.t 44), (.t 46), (.t 48), (.t 50)])⟩, ⟨(some 7), none, (.mv (.t 51))⟩]) .skip)))) (.ops [⟨(some 18), none, (.mv (.t 8))⟩, ⟨(some 19), none, (.bin .add (.t 18) (.c (.int .i64 1)))⟩, ⟨(some 8), none, (.mv (.t 19))⟩]))))))) (.seq (.ops [⟨(some 52), none, (.mv (.t 7))⟩, ⟨(some 6), none, (.mv (.t 52))⟩]) .ret))))
theorem tr8 : Tryz.f8.body.bind (trCode Tryz.prog) = some (strip ac8) := by kernel_rfl
theorem spec8 (es : List Ev) (st : List Ent) (ids : List Int) (hb : st.length ≤ 100) (hi : ids.length ≤ 100) (hE : smallE es) (hso : srt st) : Spec Tryz.prog 8 [.fz (.sl 29 (es.map encEv)), .fz (.sl 3 (st.map encEnt)), .fz (.sl 1 (ids.map encN))] (.fz (.sl 3 ((applyR es st ids).map encEnt))) := by
  refine spec_at (n := 50) (ars := [(.t 6)]) (ac := ac8) Tryz.func8 (by kernel_rfl) (by kernel_rfl) tr8 (by kernel_rfl) ?_
  unfold ac8
  have g1 : st.length ≤ maxLen := by simp only [maxLen]; omega
  have g2 : st.length * 32 ≤ 140737488355328 := by omega
  iterate 10 (all_goals (try (first
    | (with_reducible refine ite_in (fun _ => ?_) (fun _ => ?_))
    | (with_reducible refine ⟨fun _ => ?_, fun _ => ?_⟩)
    | (with_reducible refine And.intro ?_ ?_)
    | (with_reducible intro _)
    | (with_reducible exact is_in _)
    | (simp -implicitDefEqProofs only [SD, SF, SL, e_nf, reduceCtorEq, implies_true, ↓reduceIte, Nat.reduceEqDiff, Nat.reduceAdd, Nat.reduceMul, Nat.reduceSub, Nat.reduceLeDiff, Nat.reduceLT, Int.reduceLT, Int.reduceLE, Int.reduceEq, Int.reduceToNat, Int.reduceAdd, Int.reduceSub, Int.reduceNeg, Int.reduceBEq, Int.reduceBNe, Nat.reduceBEq, Int.cast_ofNat_Int, decide_true, decide_false, ne_eq, eq_self_iff_true, beq_eq_false_iff_ne, bne_iff_ne, List.replicate, List.length_map, *]))))
  all_goals try (simp only [maxLen] <;> omega)
  refine loop_r (X := List Int × List Int × List Ent) (fun n x => ids = x.1 ++ x.2.1 ∧ n = x.2.1.length ∧ (x.2.2 = applyR es st x.1 ∧ srt x.2.2)) (fun x => [(8, .int .i64 x.1.length), (7, .sl 3 (x.2.2.map encEnt))]) (fun _ => []) [9, 10, 14, 15, 16, 17, 18, 19, 20, 21, 22, 23, 24, 25, 26, 27, 28, 29, 30, 31, 32, 33, 34, 35, 36, 37, 38, 39, 40, 41, 42, 43, 44, 45, 46, 47, 48, 49, 50, 51] [9] [9] (ids).length ([], ids, st) ⟨rfl, rfl, by exact ⟨rfl, hso⟩⟩ ?_ ?_
  · simp -implicitDefEqProofs only [SD, SF, SL, e_nf, reduceCtorEq, implies_true, ↓reduceIte, Nat.reduceEqDiff, Nat.reduceAdd, Nat.reduceMul, Nat.reduceSub, Nat.reduceLeDiff, Nat.reduceLT, Int.reduceLT, Int.reduceLE, Int.reduceEq, Int.reduceToNat, Int.reduceAdd, Int.reduceSub, Int.reduceNeg, Int.reduceBEq, Int.reduceBNe, Nat.reduceBEq, Int.cast_ofNat_Int, decide_true, decide_false, ne_eq, eq_self_iff_true, beq_eq_false_iff_ne, bne_iff_ne, List.replicate, encEv, encEnt, zE, encN, encS, encLU, encLK, evOf_n, evOf_s, isS_n, isS_s] <;> simp
  · rintro n ⟨pre, rest, a⟩ ⟨he, rfl, hI⟩
    dsimp only at he hI
    cases rest with
    | nil =>
      obtain rfl : ids = pre := by simpa using he
      clear he
      have hlt : ¬ (((ids).length : Int) < ((ids).length : Int)) := Int.lt_irrefl _
      obtain ⟨rfl, _⟩ := hI
      iterate 60 (all_goals (try (first
        | ((with_reducible refine of_kSpec ?_); refine call_fz (spec17 es x) rfl ?_)
        | ((with_reducible refine of_kSpec ?_); refine call_fz (spec18 _) rfl ?_)
        | ((with_reducible refine of_kSpec ?_)
           refine call_sub (ds' := [.sl 29 (es.map encEv), .sl 3 (a.map encEnt), .agg (encEv e)]) (hbase) rfl ?_ ?_
           · simp -implicitDefEqProofs only [SD, SF, SL, e_nf, reduceCtorEq, implies_true, ↓reduceIte, Nat.reduceEqDiff, Nat.reduceAdd, Nat.reduceMul, Nat.reduceSub, Nat.reduceLeDiff, Nat.reduceLT, Int.reduceLT, Int.reduceLE, Int.reduceEq, Int.reduceToNat, Int.reduceAdd, Int.reduceSub, Int.reduceNeg, Int.reduceBEq, Int.reduceBNe, Nat.reduceBEq, Int.cast_ofNat_Int, decide_true, decide_false, ne_eq, eq_self_iff_true, beq_eq_false_iff_ne, bne_iff_ne, List.replicate, encEv, *]
             done)
        | ((with_reducible refine of_kSpec ?_)
           refine call_sub (ds' := [.agg (encEv e), .sl 29 ((baseG getS es a e).map encEv)]) (hall) rfl ?_ ?_
           · simp -implicitDefEqProofs only [SD, SF, SL, e_nf, reduceCtorEq, implies_true, ↓reduceIte, Nat.reduceEqDiff, Nat.reduceAdd, Nat.reduceMul, Nat.reduceSub, Nat.reduceLeDiff, Nat.reduceLT, Int.reduceLT, Int.reduceLE, Int.reduceEq, Int.reduceToNat, Int.reduceAdd, Int.reduceSub, Int.reduceNeg, Int.reduceBEq, Int.reduceBNe, Nat.reduceBEq, Int.cast_ofNat_Int, decide_true, decide_false, ne_eq, eq_self_iff_true, beq_eq_false_iff_ne, bne_iff_ne, List.replicate, encEv, *]
             done)
        | ((with_reducible refine of_kSpec ?_); refine call_fz (spec21 a e.kind e.key e.ident hal) rfl ?_)
        | (with_reducible refine ite_in (fun _ => ?_) (fun _ => ?_))
        | (with_reducible refine ⟨fun _ => ?_, fun _ => ?_⟩)
        | (with_reducible refine And.intro ?_ ?_)
        | (with_reducible intro _)
        | (with_reducible exact is_in _)
        | (simp -implicitDefEqProofs only [SD, SF, SL, e_nf, reduceCtorEq, implies_true, ↓reduceIte, Nat.reduceEqDiff, Nat.reduceAdd, Nat.reduceMul, Nat.reduceSub, Nat.reduceLeDiff, Nat.reduceLT, Int.reduceLT, Int.reduceLE, Int.reduceEq, Int.reduceToNat, Int.reduceAdd, Int.reduceSub, Int.reduceNeg, Int.reduceBEq, Int.reduceBNe, Nat.reduceBEq, Int.cast_ofNat_Int, decide_true, decide_false, ne_eq, eq_self_iff_true, beq_eq_false_iff_ne, bne_iff_ne, List.replicate, encEv, encEnt, zE, encN, encS, encLU, encLK, evOf_n, evOf_s, isS_n, isS_s, *]))))
      all_goals (first | (simp_all; done) | trace_state)

    | cons x rest =>
      have hlt := cut_lt he
      have hx := cutD encN he
      simp only [encN] at hx
      simp -implicitDefEqProofs only [SD, SF, SL, e_nf, reduceCtorEq, implies_true, ↓reduceIte, Nat.reduceEqDiff, Nat.reduceAdd, Nat.reduceMul, Nat.reduceSub, Nat.reduceLeDiff, Nat.reduceLT, Int.reduceLT, Int.reduceLE, Int.reduceEq, Int.reduceToNat, Int.reduceAdd, Int.reduceSub, Int.reduceNeg, Int.reduceBEq, Int.reduceBNe, Nat.reduceBEq, Int.cast_ofNat_Int, decide_true, decide_false, ne_eq, eq_self_iff_true, beq_eq_false_iff_ne, bne_iff_ne, List.replicate, encEv, encEnt, zE, encN, encS, encLU, encLK, evOf_n, evOf_s, isS_n, isS_s, hlt]
      intro hl
      have hw := wrap_len (n := pre.length) (m := (ids).length) (cut_lt' he) (by simp only [maxLen]; omega)
      replace he := Hd.mk he
      obtain ⟨hI1, hsr⟩ := hI
      have hal : a.length ≤ 1000 := by
        have h1 := len_applyR es pre st
        have h2 := cut_lt' he.out
        rw [hI1]
        omega
      have hsn : applyR es st (pre ++ [x]) = stepR es a x := by rw [apply_snoc, hI1]
      have hsr2 : srt (stepR es a x) := srt_step hsr
      rcases round_cases es a x with ⟨hf, hst⟩ | ⟨e, hf, hs1, hst⟩ | ⟨e, hf, hs1, hs2, hst⟩ | ⟨e, hf, hs1, hs2, hst⟩
      all_goals rw [hst] at hsn hsr2
      all_goals (clear hst; replace hsn := Hd.mk hsn; replace hsr2 := Hd.mk hsr2; replace hI1 := Hd.mk hI1)
      case' inr.inl => obtain ⟨e1, e2, e3, e4, e5, e6⟩ := hE e (List.mem_of_find?_eq_some hf)
      case' inr.inr.inl => obtain ⟨e1, e2, e3, e4, e5, e6⟩ := hE e (List.mem_of_find?_eq_some hf)
      case' inr.inr.inr => obtain ⟨e1, e2, e3, e4, e5, e6⟩ := hE e (List.mem_of_find?_eq_some hf)
      all_goals try have hbase := spec20 es a e hal e1
      all_goals try rw [← base_eq es e hsr] at hbase
      all_goals try have hall := spec19 e (baseG getS es a e) (fun x hx => (hE x (mem_baseG hx)).2.1) (fun x hx => ⟨(hE x (mem_baseG hx)).2.2.1, (hE x (mem_baseG hx)).2.2.2.1⟩) e4 (lev_len fun x hx => (hE x (mem_baseG hx)).2.2.2.1) ⟨e5, e6⟩
      all_goals try clear e1 e2 e3 e4 e5 e6
      all_goals replace hsr := Hd.mk hsr
      iterate 60 (all_goals (try (first
        | ((with_reducible refine back_in rest.length [9, 10, 14, 15, 16, 17, 18, 19, 20, 21, 22, 23, 24, 25, 26, 27, 28, 29, 30, 31, 32, 33, 34, 35, 36, 37, 38, 39, 40, 41, 42, 43, 44, 45, 46, 47, 48, 49, 50, 51] [9] (pre ++ [x], rest, a) ?_ ⟨?_, ?_, ?_⟩ ?_)
           · simp
           · exact cut_snoc he.out
           · rfl
           · exact ⟨hsn.out.symm, hsr2.out⟩
           · first | (simp -implicitDefEqProofs only [SD, SF, SL, e_nf, reduceCtorEq, implies_true, ↓reduceIte, Nat.reduceEqDiff, Nat.reduceAdd, Nat.reduceMul, Nat.reduceSub, Nat.reduceLeDiff, Nat.reduceLT, Int.reduceLT, Int.reduceLE, Int.reduceEq, Int.reduceToNat, Int.reduceAdd, Int.reduceSub, Int.reduceNeg, Int.reduceBEq, Int.reduceBNe, Nat.reduceBEq, Int.cast_ofNat_Int, decide_true, decide_false, ne_eq, eq_self_iff_true, beq_eq_false_iff_ne, bne_iff_ne, List.replicate, encEv, encEnt, zE, encN, encS, encLU, encLK, evOf_n, evOf_s, isS_n, isS_s] <;> simp <;> done) | (simp -implicitDefEqProofs only [SD, SF, SL, e_nf, reduceCtorEq, implies_true, ↓reduceIte, Nat.reduceEqDiff, Nat.reduceAdd, Nat.reduceMul, Nat.reduceSub, Nat.reduceLeDiff, Nat.reduceLT, Int.reduceLT, Int.reduceLE, Int.reduceEq, Int.reduceToNat, Int.reduceAdd, Int.reduceSub, Int.reduceNeg, Int.reduceBEq, Int.reduceBNe, Nat.reduceBEq, Int.cast_ofNat_Int, decide_true, decide_false, ne_eq, eq_self_iff_true, beq_eq_false_iff_ne, bne_iff_ne, List.replicate, encEv, encEnt, zE, encN, encS, encLU, encLK, evOf_n, evOf_s, isS_n, isS_s, *] <;> simp_all <;> done))
        | ((with_reducible refine back_in rest.length [9, 10, 14, 15, 16, 17, 18, 19, 20, 21, 22, 23, 24, 25, 26, 27, 28, 29, 30, 31, 32, 33, 34, 35, 36, 37, 38, 39, 40, 41, 42, 43, 44, 45, 46, 47, 48, 49, 50, 51] [9] (pre ++ [x], rest, (setS a ⟨e.kind, e.key, e.ident⟩)) ?_ ⟨?_, ?_, ?_⟩ ?_)
           · simp
           · exact cut_snoc he.out
           · rfl
           · exact ⟨hsn.out.symm, hsr2.out⟩
           · first | (simp -implicitDefEqProofs only [SD, SF, SL, e_nf, reduceCtorEq, implies_true, ↓reduceIte, Nat.reduceEqDiff, Nat.reduceAdd, Nat.reduceMul, Nat.reduceSub, Nat.reduceLeDiff, Nat.reduceLT, Int.reduceLT, Int.reduceLE, Int.reduceEq, Int.reduceToNat, Int.reduceAdd, Int.reduceSub, Int.reduceNeg, Int.reduceBEq, Int.reduceBNe, Nat.reduceBEq, Int.cast_ofNat_Int, decide_true, decide_false, ne_eq, eq_self_iff_true, beq_eq_false_iff_ne, bne_iff_ne, List.replicate, encEv, encEnt, zE, encN, encS, encLU, encLK, evOf_n, evOf_s, isS_n, isS_s] <;> simp <;> done) | (simp -implicitDefEqProofs only [SD, SF, SL, e_nf, reduceCtorEq, implies_true, ↓reduceIte, Nat.reduceEqDiff, Nat.reduceAdd, Nat.reduceMul, Nat.reduceSub, Nat.reduceLeDiff, Nat.reduceLT, Int.reduceLT, Int.reduceLE, Int.reduceEq, Int.reduceToNat, Int.reduceAdd, Int.reduceSub, Int.reduceNeg, Int.reduceBEq, Int.reduceBNe, Nat.reduceBEq, Int.cast_ofNat_Int, decide_true, decide_false, ne_eq, eq_self_iff_true, beq_eq_false_iff_ne, bne_iff_ne, List.replicate, encEv, encEnt, zE, encN, encS, encLU, encLK, evOf_n, evOf_s, isS_n, isS_s, *] <;> simp_all <;> done))
        | ((with_reducible refine of_kSpec ?_); refine call_fz (spec17 es x) rfl ?_)
        | ((with_reducible refine of_kSpec ?_); refine call_fz (spec18 _) rfl ?_)
        | ((with_reducible refine of_kSpec ?_)
           refine call_sub (ds' := [.sl 29 (es.map encEv), .sl 3 (a.map encEnt), .agg (encEv e)]) (hbase) rfl ?_ ?_
           · simp -implicitDefEqProofs only [SD, SF, SL, e_nf, reduceCtorEq, implies_true, ↓reduceIte, Nat.reduceEqDiff, Nat.reduceAdd, Nat.reduceMul, Nat.reduceSub, Nat.reduceLeDiff, Nat.reduceLT, Int.reduceLT, Int.reduceLE, Int.reduceEq, Int.reduceToNat, Int.reduceAdd, Int.reduceSub, Int.reduceNeg, Int.reduceBEq, Int.reduceBNe, Nat.reduceBEq, Int.cast_ofNat_Int, decide_true, decide_false, ne_eq, eq_self_iff_true, beq_eq_false_iff_ne, bne_iff_ne, List.replicate, encEv, *]
             done)
        | ((with_reducible refine of_kSpec ?_)
           refine call_sub (ds' := [.agg (encEv e), .sl 29 ((baseG getS es a e).map encEv)]) (hall) rfl ?_ ?_
           · simp -implicitDefEqProofs only [SD, SF, SL, e_nf, reduceCtorEq, implies_true, ↓reduceIte, Nat.reduceEqDiff, Nat.reduceAdd, Nat.reduceMul, Nat.reduceSub, Nat.reduceLeDiff, Nat.reduceLT, Int.reduceLT, Int.reduceLE, Int.reduceEq, Int.reduceToNat, Int.reduceAdd, Int.reduceSub, Int.reduceNeg, Int.reduceBEq, Int.reduceBNe, Nat.reduceBEq, Int.cast_ofNat_Int, decide_true, decide_false, ne_eq, eq_self_iff_true, beq_eq_false_iff_ne, bne_iff_ne, List.replicate, encEv, *]
             done)
        | ((with_reducible refine of_kSpec ?_); refine call_fz (spec21 a e.kind e.key e.ident hal) rfl ?_)
        | (with_reducible refine ite_in (fun _ => ?_) (fun _ => ?_))
        | (with_reducible refine ⟨fun _ => ?_, fun _ => ?_⟩)
        | (with_reducible refine And.intro ?_ ?_)
        | (with_reducible intro _)
        | (with_reducible exact is_in _)
        | (simp -implicitDefEqProofs only [SD, SF, SL, e_nf, reduceCtorEq, implies_true, ↓reduceIte, Nat.reduceEqDiff, Nat.reduceAdd, Nat.reduceMul, Nat.reduceSub, Nat.reduceLeDiff, Nat.reduceLT, Int.reduceLT, Int.reduceLE, Int.reduceEq, Int.reduceToNat, Int.reduceAdd, Int.reduceSub, Int.reduceNeg, Int.reduceBEq, Int.reduceBNe, Nat.reduceBEq, Int.cast_ofNat_Int, decide_true, decide_false, ne_eq, eq_self_iff_true, beq_eq_false_iff_ne, bne_iff_ne, List.replicate, encEv, encEnt, zE, encN, encS, encLU, encLK, evOf_n, evOf_s, isS_n, isS_s, *]))))
      all_goals (first | (simp_all; done) | trace_state)

end Go.Proofs.YtcolebkklojccaaGreat.E

namespace Go.Proofs.YtcolebkklojccaaGreat.E
open Go
set_option maxHeartbeats 4000000
set_option maxRecDepth 100000
set_option linter.unusedSimpArgs false
set_option linter.unusedVariables false
attribute [local congr] c_wp c_ops c_op c_opS c_run c_runS c_dt c_seq c_blk c_loop c_S c_put c_bind c_mv c_pick c_nt c_ng c_bin c_binI c_binS c_beq c_B c_eqa c_hd c_cells c_blkK c_box c_vec c_mp c_nck c_mks c_appn c_mkm c_mput c_mlk c_mrm c_take c_ld c_ldF c_cellsK c_st c_fld c_fldv c_ix c_ixp c_ixv c_ixs c_sub c_subs c_len c_lens c_src c_dst c_ow c_app c_ext c_mm c_conv c_str c_isn c_fill c_rows c_boxo c_frz c_frzO c_frzA c_frzV c_spec c_specO c_opsP c_opP c_runP c_specP c_Z c_qretP c_fz c_fn c_gv c_cond c_res1 c_resL c_ret c_qret c_ite c_unr c_nx c_bk c_cut c_is
attribute [local irreducible] dwp
def ac3 : AC := (.seq (.ops [⟨(some 6), none, (.mv (.c (.bool false)))⟩]) (.seq (.seq (.ops [⟨(some 7), none, (.mv (.t 0))⟩, ⟨(some 8), none, (.mv (.t 1))⟩, ⟨(some 9), none, (.mv (.t 2))⟩, ⟨(some 10), none, (.call false 4 [(.t 7), (.t 8), (.t 9)])⟩]) (.cond (.t 10) (.seq (.ops [⟨(some 11), none, (.call false 5 [])⟩, ⟨(some 6), none, (.mv (.t 11))⟩]) .ret) .skip)) (.seq (.ops [⟨(some 12), none, (.mv (.t 0))⟩, ⟨(some 13), none, (.mv (.t 1))⟩, ⟨(some 14), none, (.mv (.t 2))⟩, ⟨(some 15), none, (.call false 7 [(.t 12), (.t 13), (.t 14)])⟩, ⟨(some 16), none, (.mv (.t 0))⟩, ⟨(some 17), none, (.mv (.t 1))⟩, ⟨(some 18), none, (.mv (.t 2))⟩, ⟨(some 19), none, (.call false 8 [(.t 16), (.t 17), (.t 18)])⟩, ⟨(some 20), none, (.call false 6 [(.t 15), (.t 19)])⟩, ⟨(some 21), none, (.mv (.t 20))⟩, ⟨(some 22), (some (21, true)), (.call false 5 [])⟩, ⟨(some 23), none, (.pick (.t 21) (.t 22) (.c (.bool false)))⟩, ⟨(some 6), none, (.mv (.t 23))⟩]) .ret)))
theorem tr3 : Tryz.f3.body.bind (trCode Tryz.prog) = some (strip ac3) := by kernel_rfl
theorem spec3 (es : List Ev) (st : List Ent) (ids : List Int) : Spec Tryz.prog 3 [.fz (.sl 29 (es.map encEv)), .fz (.sl 3 (st.map encEnt)), .fz (.sl 1 (ids.map encN))] (.fz (.bool true)) := by
  refine spec_at (n := 21) (ars := [(.t 6)]) (ac := ac3) Tryz.func3 (by kernel_rfl) (by kernel_rfl) tr3 (by kernel_rfl) ?_
  unfold ac3
  have hgc := spec4 es st ids
  cases hg : greatR es st ids
  · obtain ⟨hE, hl, hst, hid, hs⟩ := great_ok hg
    have q1 := spec7 es st ids (by omega) (by omega) hE
    have q2 := spec8 es st ids (by omega) (by omega) hE hs
    have q3 := spec6 (applyR es st ids) (applyR es st ids)
    rw [decide_eq_true (rfl : applyR es st ids = applyR es st ids)] at q3
    rw [hg] at hgc
    clear hg hE hl hst hid hs
    iterate 60 (all_goals (try (first
      | ((with_reducible refine of_kSpec ?_); refine call_fz (hgc) rfl ?_)
      | ((with_reducible refine of_kSpec ?_); refine call_fz (q1) rfl ?_)
      | ((with_reducible refine of_kSpec ?_); refine call_fz (q2) rfl ?_)
      | ((with_reducible refine of_kSpec ?_); refine call_fz (q3) rfl ?_)
      | ((with_reducible refine of_kSpec ?_); refine call_fz (spec5) rfl ?_)
      | (with_reducible refine ite_in (fun _ => ?_) (fun _ => ?_))
      | (with_reducible refine ⟨fun _ => ?_, fun _ => ?_⟩)
      | (with_reducible refine And.intro ?_ ?_)
      | (with_reducible intro _)
      | (with_reducible exact is_in _)
      | (simp -implicitDefEqProofs only [SD, SF, SL, e_nf, reduceCtorEq, implies_true, ↓reduceIte, Nat.reduceEqDiff, Nat.reduceAdd, Nat.reduceMul, Nat.reduceSub, Nat.reduceLeDiff, Nat.reduceLT, Int.reduceLT, Int.reduceLE, Int.reduceEq, Int.reduceToNat, Int.reduceAdd, Int.reduceSub, Int.reduceNeg, Int.reduceBEq, Int.reduceBNe, Nat.reduceBEq, Int.cast_ofNat_Int, decide_true, decide_false, ne_eq, eq_self_iff_true, beq_eq_false_iff_ne, bne_iff_ne, List.replicate, *]))))
    all_goals (first | rfl | (simp_all; done) | trace_state)
  · rw [hg] at hgc
    iterate 60 (all_goals (try (first
      | ((with_reducible refine of_kSpec ?_); refine call_fz (hgc) rfl ?_)
      | ((with_reducible refine of_kSpec ?_); refine call_fz (spec5) rfl ?_)
      | (with_reducible refine ite_in (fun _ => ?_) (fun _ => ?_))
      | (with_reducible refine ⟨fun _ => ?_, fun _ => ?_⟩)
      | (with_reducible refine And.intro ?_ ?_)
      | (with_reducible intro _)
      | (with_reducible exact is_in _)
      | (simp -implicitDefEqProofs only [SD, SF, SL, e_nf, reduceCtorEq, implies_true, ↓reduceIte, Nat.reduceEqDiff, Nat.reduceAdd, Nat.reduceMul, Nat.reduceSub, Nat.reduceLeDiff, Nat.reduceLT, Int.reduceLT, Int.reduceLE, Int.reduceEq, Int.reduceToNat, Int.reduceAdd, Int.reduceSub, Int.reduceNeg, Int.reduceBEq, Int.reduceBNe, Nat.reduceBEq, Int.cast_ofNat_Int, decide_true, decide_false, ne_eq, eq_self_iff_true, beq_eq_false_iff_ne, bne_iff_ne, List.replicate, *]))))
    all_goals (first | rfl | (simp_all; done) | trace_state)


end Go.Proofs.YtcolebkklojccaaGreat.E
