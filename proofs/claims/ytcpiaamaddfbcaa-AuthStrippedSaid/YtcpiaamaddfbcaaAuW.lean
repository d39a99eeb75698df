/-
  AuW: walks of functions of the program at data level.
-/
import Derived.Test.YtcpiaamaddfbcaaProg
import Derived.Test.YtcpiaamaddfbcaaEngZ
import Derived.Test.YtcpiaamaddfbcaaAuS
import Derived.Test.YtcpiaamaddfbcaaAuT
import Derived.Test.YtcpiaamaddfbcaaAuU
import Derived.KernelRfl
set_option linter.unusedVariables false
set_option linter.unusedSimpArgs false
namespace Go.Proofs.Ytcpiaamaddfbcaa.E
open Go
set_option maxHeartbeats 4000000
set_option maxRecDepth 100000
set_option linter.unusedSimpArgs false
set_option linter.unusedVariables false
attribute [local congr] c_wp c_ops c_op c_opS c_run c_runS c_dt c_seq c_blk c_loop c_S c_put c_bind c_mv c_pick c_nt c_ng c_bin c_binI c_binS c_beq c_B c_eqa c_hd c_cells c_blkK c_box c_vec c_take c_ld c_ldF c_cellsK c_st c_fld c_fldv c_ix c_ixp c_ixv c_ixs c_sub c_subs c_len c_lens c_src c_dst c_ow c_app c_ext c_mm c_conv c_str c_isn c_fill c_rows c_boxo c_frz c_frzO c_frzA c_frzV c_spec c_specO c_opsP c_opP c_runP c_specP c_Z c_qretP c_fz c_fn c_gv c_cond c_res1 c_resL c_ret c_qret c_ite c_unr c_nx c_bk c_cut c_is
attribute [local irreducible] dwp

theorem enc_len (e : Ev) : (encEv e).length = 29 := rfl
theorem enc_fz (e : Ev) : (encEv e).all isFz = true := rfl
theorem enc_fz' (e : Ev) : (∀ x ∈ encEv e, isFz x = true) = True := by simp [encEv, isFz]

theorem loop_r {P : Program} {Q : AE → DS → Prop} {X : Type} {c : AC} {E : List DV} {M : Mem} (R : Nat → X → Prop) (pe : X → List (Nat × DV)) (pm : X → List (Nat × Blk)) (ts0 ks ks0 : List Nat) (n0 : Nat) (x0 : X) (hR : R n0 x0)
    (h0 : forget ts0 ks0 ⟨E, M⟩ = ⟨pE (pe x0) (forgetE ts0 E), pM (pm x0) (msort (mdels ks M))⟩)
    (hr : ∀ n x, R n x → dwp P c ⟨pE (pe x) (forgetE ts0 E), pM (pm x) (msort (mdels ks M))⟩
      (kLoop (kBk R (fun x => ⟨pE (pe x) (forgetE ts0 E), pM (pm x) (msort (mdels ks M))⟩) n) Q)) : dwp P (.loop c) ⟨E, M⟩ Q := by
  unfold dwp
  refine ⟨fun n s => ∃ x, R n x ∧ s = ⟨pE (pe x) (forgetE ts0 E), pM (pm x) (msort (mdels ks M))⟩, n0, ts0, ks0, ⟨x0, hR, h0⟩, ?_⟩
  rintro n s ⟨x, hx, rfl⟩
  exact hr n x hx

theorem sv_allow (e : Ev) : (stripEv e).allow.length ≤ e.allow.length := by
  unfold stripEv clrEv
  repeat (first | exact Nat.le_refl _ | exact Nat.zero_le _ | split)
theorem sv_users (e : Ev) : (stripEv e).lv.users.length ≤ e.lv.users.length := by
  unfold stripEv clrEv
  repeat (first | exact Nat.le_refl _ | exact Nat.zero_le _ | split)
theorem sv_kinds (e : Ev) : (stripEv e).lv.kinds.length ≤ e.lv.kinds.length := by
  unfold stripEv clrEv
  repeat (first | exact Nat.le_refl _ | exact Nat.zero_le _ | split)
theorem sv_1 {e : Ev} (h : e.kind = 1) : stripEv e = e := by simp [stripEv, h]
theorem sv_2 {e : Ev} (h : e.kind = 2) : (stripEv e).n = e.n := by simp [stripEv, h]
theorem sv_3 {e : Ev} (h : e.kind = 3) : (stripEv e).lv = e.lv := by simp [stripEv, h]
theorem sv_4 {e : Ev} (h : e.kind = 4) : (stripEv e).n = e.n ∧ (stripEv e).allow = e.allow := by simp [stripEv, h]
theorem sv_find : ∀ (es : List Ev) (k : Int), findL (es.map stripEv) k = (findL es k).map stripEv
  | [], _ => rfl
  | x :: es, k => by
    rw [List.map_cons]
    unfold findL
    rw [st_kind]
    by_cases h : x.kind = k
    · rw [if_pos h, if_pos h]
      rfl
    · rw [if_neg h, if_neg h]
      exact sv_find es k
theorem find_kind : ∀ (es : List Ev) (k : Int) (e : Ev), findL es k = some e → e.kind = k
  | [], _, _, h => by simp [findL] at h
  | x :: es, k, e, h => by
    unfold findL at h
    by_cases hk : x.kind = k
    · rw [if_pos hk] at h
      injection h with h
      rw [← h]
      exact hk
    · rw [if_neg hk] at h
      exact find_kind es k e h
theorem sv_find1 (es : List Ev) : findL (es.map stripEv) 1 = findL es 1 := by
  rw [sv_find]
  cases h : findL es 1 with
  | none => rfl
  | some e => rw [Option.map_some, sv_1 (find_kind es 1 e h)]
theorem sv_hasCre (es : List Ev) : hasCre (es.map stripEv) = hasCre es := by unfold hasCre; rw [sv_find1]
theorem sv_creEv (es : List Ev) : creEv (es.map stripEv) = creEv es := by unfold creEv; rw [sv_find1]
theorem sv_creator (es : List Ev) : creatorL (es.map stripEv) = creatorL es := by unfold creatorL; rw [sv_find1]
theorem sv_levels (es : List Ev) : levelsL (es.map stripEv) = levelsL es := by
  unfold levelsL
  rw [sv_find, sv_creator]
  cases h : findL es 3 with
  | none => rfl
  | some e => exact sv_3 (find_kind es 3 e h)
theorem sv_rules : ∀ es : List Ev, rulesL (es.map stripEv) = rulesL es
  | [] => rfl
  | x :: es => by
    rw [List.map_cons]
    unfold rulesL
    rw [st_kind]
    by_cases h : x.kind = 4
    · rw [if_pos h, if_pos h, (sv_4 h).1, (sv_4 h).2]
    · rw [if_neg h, if_neg h, sv_rules es]
theorem sv_member : ∀ (es : List Ev) (u : List UInt8), memberL (es.map stripEv) u = memberL es u
  | [], _ => rfl
  | x :: es, u => by
    rw [List.map_cons]
    unfold memberL
    rw [st_kind, st_key]
    by_cases h : x.kind = 2 ∧ x.key = u
    · rw [if_pos h, if_pos h, sv_2 h.1]
    · rw [if_neg h, if_neg h, sv_member es u]
theorem sv_hasMem : ∀ (es : List Ev) (u : List UInt8), hasMem (es.map stripEv) u = hasMem es u
  | [], _ => rfl
  | x :: es, u => by
    rw [List.map_cons]
    unfold hasMem
    rw [st_kind, st_key, sv_hasMem es u]
theorem sv_lev (e : Ev) (es : List Ev) : levR (stripEv e) (es.map stripEv) = levR e es := by
  unfold levR
  rw [sv_levels, st_sender, st_kind]
  by_cases h : e.kind = 3
  · rw [if_pos h, if_pos h, sv_3 h]
  · rw [if_neg h, if_neg h]
theorem sv_mem (e : Ev) (es : List Ev) (h : e.kind = 2) : memR (stripEv e) (es.map stripEv) = memR e es := by
  unfold memR memR' firstB othR
  rw [sv_levels, sv_hasCre, sv_creEv, sv_rules, sv_hasMem, sv_member, sv_member, st_prev, st_sender, st_key, sv_2 h]
theorem sv_all (e : Ev) (es : List Ev) : allR (stripEv e) (es.map stripEv) = allR e es := by
  unfold allR
  rw [sv_lev, sv_hasCre, sv_member, st_kind, st_sender, st_room]
  by_cases h : e.kind = 2
  · rw [sv_mem e es h]
  · simp [h]
def ac9 : AC := (.seq (.ops [⟨(some 2), none, (.box (.t 0))⟩, ⟨(some 4), none, (.mv (.c (.bool false)))⟩]) (.seq (.seq (.ops [⟨(some 7), none, (.ld true 29 (.t 2))⟩, ⟨(some 8), none, (.call false 10 [(.t 7)])⟩, ⟨(some 9), none, (.nt (.t 8))⟩, ⟨(some 10), none, (.mv (.t 9))⟩, ⟨(some 11), (some (10, false)), (.mv (.t 1))⟩, ⟨(some 12), (some (10, false)), (.call false 11 [(.t 11)])⟩, ⟨(some 13), (some (10, false)), (.nt (.t 12))⟩, ⟨(some 14), none, (.pick (.t 10) (.c (.bool true)) (.t 13))⟩]) (.cond (.t 14) (.seq (.ops [⟨(some 15), none, (.call false 12 [])⟩, ⟨(some 4), none, (.mv (.t 15))⟩]) .ret) .skip)) (.seq (.ops [⟨(some 16), none, (.buildSl 34 29 0 [(.int .i64 0), (.str []), (.str []), (.int .i64 0), (.bool false), (.str []), (.int .i64 0), (.int .i64 0), .e0, .e0, (.str []), (.int .i64 0), (.int .i64 0), (.bool false), (.str []), .e0, .e0, .e0, .e0, (.int .i64 0), (.int .i64 0), (.int .i64 0), (.int .i64 0), (.int .i64 0), (.int .i64 0), (.int .i64 0), (.int .i64 0), (.str []), (.int .i64 0)] [])⟩, ⟨(some 5), none, (.mv (.t 16))⟩]) (.seq (.seq (.ops [⟨(some 6), none, (.mv (.c (.int .i64 0)))⟩]) (.block 0 (.loop (.seq (.seq (.ops [⟨(some 17), none, (.mv (.t 6))⟩, ⟨(some 18), none, (.mv (.t 1))⟩, ⟨(some 19), none, (.len (.t 18))⟩, ⟨(some 20), none, (.bin .lss (.t 17) (.t 19))⟩]) (.cond (.t 20) .skip (.exit 0))) (.seq (.block 1 (.ops [⟨(some 23), none, (.mv (.t 5))⟩, ⟨(some 24), none, (.mv (.t 1))⟩, ⟨(some 25), none, (.mv (.t 6))⟩, ⟨(some 26), none, (.ix 29 (.t 24) (.t 25))⟩, ⟨(some 27), none, (.ld true 29 (.t 26))⟩, ⟨(some 28), none, (.call false 24 [(.t 27)])⟩, ⟨(some 29), none, (.buildSl 34 29 1 [(.int .i64 0), (.str []), (.str []), (.int .i64 0), (.bool false), (.str []), (.int .i64 0), (.int .i64 0), .e0, .e0, (.str []), (.int .i64 0), (.int .i64 0), (.bool false), (.str []), .e0, .e0, .e0, .e0, (.int .i64 0), (.int .i64 0), (.int .i64 0), (.int .i64 0), (.int .i64 0), (.int .i64 0), (.int .i64 0), (.int .i64 0), (.str []), (.int .i64 0)] [(0, (.t 28))])⟩, ⟨(some 30), none, (.app 34 29 376 (.t 23) (.t 29))⟩, ⟨(some 5), none, (.mv (.t 30))⟩])) (.ops [⟨(some 21), none, (.mv (.t 6))⟩, ⟨(some 22), none, (.bin .add (.t 21) (.c (.int .i64 1)))⟩, ⟨(some 6), none, (.mv (.t 22))⟩])))))) (.seq (.draw (.q false ⟨(some 31), none, (.ld true 29 (.t 2))⟩ (.q false ⟨(some 33), none, (.mv (.t 5))⟩ (.q false ⟨(some 35), none, (.ld true 29 (.t 2))⟩ (.q false ⟨(some 36), none, (.mv (.t 1))⟩ (.op ⟨(some 32), none, (.call false 24 [(.t 31)])⟩ (.op ⟨(some 34), none, (.call false 13 [(.t 32), (.t 33)])⟩ (.op ⟨(some 37), none, (.call false 13 [(.t 35), (.t 36)])⟩ (.q false ⟨(some 38), none, (.bin .eql (.t 34) (.t 37))⟩ (.q false ⟨(some 39), none, (.mv (.t 38))⟩ (.op ⟨(some 40), (some (39, true)), (.call false 12 [])⟩ (.q false ⟨(some 41), none, (.pick (.t 39) (.t 40) (.c (.bool false)))⟩ (.q false ⟨(some 4), none, (.mv (.t 41))⟩ .nil))))))))))))) .ret)))))
theorem tr9 : Try.f9.body.bind (trCode Try.prog) = some (strip ac9) := by kernel_rfl
theorem spec9 (e : Ev) (es : List Ev) : Spec Try.prog 9 [.fz (.agg (encEv e)), .fz (.sl 29 (es.map encEv))] (.fz (.bool true)) := by
  refine spec_at (n := 40) (ars := [(.t 4)]) (ac := ac9) Try.func9 (by kernel_rfl) (by kernel_rfl) tr9 (by kernel_rfl) ?_
  unfold ac9
  cases hbe : briefB e
  · skip
    iterate 30 (all_goals (try (first
      | ((with_reducible refine of_kSpec ?_)
         refine call_sub (ds' := [.agg (encEv e)]) (spec10 e) rfl ?_ ?_
         · simp -implicitDefEqProofs only [SD, SF, SL, e_nf, reduceCtorEq, implies_true, ↓reduceIte, Nat.reduceEqDiff, Nat.reduceAdd, Nat.reduceMul, Nat.reduceSub, Nat.reduceLeDiff, Nat.reduceLT, Int.reduceLT, Int.reduceLE, Int.reduceEq, Int.reduceToNat, Int.reduceAdd, Int.reduceSub, Int.reduceNeg, Int.reduceBEq, Int.reduceBNe, Nat.reduceBEq, Int.cast_ofNat_Int, decide_true, decide_false, ne_eq, eq_self_iff_true, beq_eq_false_iff_ne, bne_iff_ne, List.replicate, encEv, *]
           done)
      | ((with_reducible refine of_kSpec ?_); refine call_fz (spec11 es) rfl ?_)
      | ((with_reducible refine of_kSpec ?_); refine call_fz (spec12) rfl ?_)
      | (with_reducible refine ite_in (fun _ => ?_) (fun _ => ?_))
      | (with_reducible refine ⟨fun _ => ?_, fun _ => ?_⟩)
      | (with_reducible refine And.intro ?_ ?_)
      | (with_reducible intro _)
      | (with_reducible exact is_in _)
      | (simp -implicitDefEqProofs only [SD, SF, SL, e_nf, reduceCtorEq, implies_true, ↓reduceIte, Nat.reduceEqDiff, Nat.reduceAdd, Nat.reduceMul, Nat.reduceSub, Nat.reduceLeDiff, Nat.reduceLT, Int.reduceLT, Int.reduceLE, Int.reduceEq, Int.reduceToNat, Int.reduceAdd, Int.reduceSub, Int.reduceNeg, Int.reduceBEq, Int.reduceBNe, Nat.reduceBEq, Int.cast_ofNat_Int, decide_true, decide_false, ne_eq, eq_self_iff_true, beq_eq_false_iff_ne, bne_iff_ne, List.replicate, encEv, *]))))
  cases hfe : fewB es
  · skip
    iterate 30 (all_goals (try (first
      | ((with_reducible refine of_kSpec ?_)
         refine call_sub (ds' := [.agg (encEv e)]) (spec10 e) rfl ?_ ?_
         · simp -implicitDefEqProofs only [SD, SF, SL, e_nf, reduceCtorEq, implies_true, ↓reduceIte, Nat.reduceEqDiff, Nat.reduceAdd, Nat.reduceMul, Nat.reduceSub, Nat.reduceLeDiff, Nat.reduceLT, Int.reduceLT, Int.reduceLE, Int.reduceEq, Int.reduceToNat, Int.reduceAdd, Int.reduceSub, Int.reduceNeg, Int.reduceBEq, Int.reduceBNe, Nat.reduceBEq, Int.cast_ofNat_Int, decide_true, decide_false, ne_eq, eq_self_iff_true, beq_eq_false_iff_ne, bne_iff_ne, List.replicate, encEv, *]
           done)
      | ((with_reducible refine of_kSpec ?_); refine call_fz (spec11 es) rfl ?_)
      | ((with_reducible refine of_kSpec ?_); refine call_fz (spec12) rfl ?_)
      | (with_reducible refine ite_in (fun _ => ?_) (fun _ => ?_))
      | (with_reducible refine ⟨fun _ => ?_, fun _ => ?_⟩)
      | (with_reducible refine And.intro ?_ ?_)
      | (with_reducible intro _)
      | (with_reducible exact is_in _)
      | (simp -implicitDefEqProofs only [SD, SF, SL, e_nf, reduceCtorEq, implies_true, ↓reduceIte, Nat.reduceEqDiff, Nat.reduceAdd, Nat.reduceMul, Nat.reduceSub, Nat.reduceLeDiff, Nat.reduceLT, Int.reduceLT, Int.reduceLE, Int.reduceEq, Int.reduceToNat, Int.reduceAdd, Int.reduceSub, Int.reduceNeg, Int.reduceBEq, Int.reduceBNe, Nat.reduceBEq, Int.cast_ofNat_Int, decide_true, decide_false, ne_eq, eq_self_iff_true, beq_eq_false_iff_ne, bne_iff_ne, List.replicate, encEv, *]))))
  obtain ⟨hs, hae, hbe1, hk⟩ := brief_b hbe
  obtain ⟨ha, hb, hL, h40⟩ := few_b hfe
  have hs2 : (stripEv e).sender.length ≤ 1000 ∧ (stripEv e).room.length ≤ 1000 := by
    rw [st_sender, st_room]
    exact hs
  have ha2 : ∀ e ∈ es.map stripEv, e.allow.length ≤ 1000 := by
    intro e he
    obtain ⟨x, hx, rfl⟩ := List.mem_map.1 he
    exact Nat.le_trans (sv_allow x) (ha x hx)
  have hb2 : ∀ e ∈ es.map stripEv, e.lv.users.length ≤ 1000 ∧ e.lv.kinds.length ≤ 1000 := by
    intro e he
    obtain ⟨x, hx, rfl⟩ := List.mem_map.1 he
    exact ⟨Nat.le_trans (sv_users x) (hb x hx).1, Nat.le_trans (sv_kinds x) (hb x hx).2⟩
  have hq := sv_all e es

  iterate 12 (all_goals (try (first
    | ((with_reducible refine of_kSpec ?_)
       refine call_sub (ds' := [.agg (encEv e)]) (spec10 e) rfl ?_ ?_
       · simp -implicitDefEqProofs only [SD, SF, SL, e_nf, reduceCtorEq, implies_true, ↓reduceIte, Nat.reduceEqDiff, Nat.reduceAdd, Nat.reduceMul, Nat.reduceSub, Nat.reduceLeDiff, Nat.reduceLT, Int.reduceLT, Int.reduceLE, Int.reduceEq, Int.reduceToNat, Int.reduceAdd, Int.reduceSub, Int.reduceNeg, Int.reduceBEq, Int.reduceBNe, Nat.reduceBEq, Int.cast_ofNat_Int, decide_true, decide_false, ne_eq, eq_self_iff_true, beq_eq_false_iff_ne, bne_iff_ne, List.replicate, encEv, *]
         done)
    | ((with_reducible refine of_kSpec ?_); refine call_fz (spec11 es) rfl ?_)
    | ((with_reducible refine of_kSpec ?_); refine call_fz (spec12) rfl ?_)
    | (with_reducible refine ite_in (fun _ => ?_) (fun _ => ?_))
    | (with_reducible refine ⟨fun _ => ?_, fun _ => ?_⟩)
    | (with_reducible refine And.intro ?_ ?_)
    | (with_reducible intro _)
    | (with_reducible exact is_in _)
    | (simp -implicitDefEqProofs only [SD, SF, SL, e_nf, reduceCtorEq, implies_true, ↓reduceIte, Nat.reduceEqDiff, Nat.reduceAdd, Nat.reduceMul, Nat.reduceSub, Nat.reduceLeDiff, Nat.reduceLT, Int.reduceLT, Int.reduceLE, Int.reduceEq, Int.reduceToNat, Int.reduceAdd, Int.reduceSub, Int.reduceNeg, Int.reduceBEq, Int.reduceBNe, Nat.reduceBEq, Int.cast_ofNat_Int, decide_true, decide_false, ne_eq, eq_self_iff_true, beq_eq_false_iff_ne, bne_iff_ne, List.replicate, encEv, *]))))
  refine loop_r (X := List Ev × List Ev × Nat) (fun n x => es = x.1 ++ x.2.1 ∧ n = x.2.1.length ∧ (x.2.2 = 16 ∨ x.2.2 = 30)) (fun x => [(6, .int .i64 x.1.length), (5, .ow x.2.2)]) (fun x => [(x.2.2, .vec 34 29 ((x.1.map stripEv).map encEv))]) [17, 18, 19, 20, 21, 22, 23, 24, 25, 26, 27, 28, 29, 30] [16, 29, 30] [29] (es).length ([], es, 16) ⟨rfl, rfl, by first | rfl | assumption | (simp_all []; done) | grind []⟩ ?_ ?_
  · simp -implicitDefEqProofs only [SD, SF, SL, e_nf, reduceCtorEq, implies_true, ↓reduceIte, Nat.reduceEqDiff, Nat.reduceAdd, Nat.reduceMul, Nat.reduceSub, Nat.reduceLeDiff, Nat.reduceLT, Int.reduceLT, Int.reduceLE, Int.reduceEq, Int.reduceToNat, Int.reduceAdd, Int.reduceSub, Int.reduceNeg, Int.reduceBEq, Int.reduceBNe, Nat.reduceBEq, Int.cast_ofNat_Int, decide_true, decide_false, ne_eq, eq_self_iff_true, beq_eq_false_iff_ne, bne_iff_ne, List.replicate] <;> simp
  · rintro n ⟨pre, rest, a⟩ ⟨he, rfl, hI⟩
    dsimp only at he hI
    cases rest with
    | nil =>
      obtain rfl : es = pre := by simpa using he
      clear he
      have hlt : ¬ (((es).length : Int) < ((es).length : Int)) := Int.lt_irrefl _
      clear hbe hfe
      rcases hI with rfl | rfl
      iterate 30 (all_goals (try (first
        | ((with_reducible refine of_kSpec ?_)
           refine call_sub (ds' := [.agg (encEv e)]) (spec24 e) rfl ?_ ?_
           · simp -implicitDefEqProofs only [SD, SF, SL, e_nf, reduceCtorEq, implies_true, ↓reduceIte, Nat.reduceEqDiff, Nat.reduceAdd, Nat.reduceMul, Nat.reduceSub, Nat.reduceLeDiff, Nat.reduceLT, Int.reduceLT, Int.reduceLE, Int.reduceEq, Int.reduceToNat, Int.reduceAdd, Int.reduceSub, Int.reduceNeg, Int.reduceBEq, Int.reduceBNe, Nat.reduceBEq, Int.cast_ofNat_Int, decide_true, decide_false, ne_eq, eq_self_iff_true, beq_eq_false_iff_ne, bne_iff_ne, List.replicate, encEv, *]
             done)
        | ((with_reducible refine of_kSpec ?_)
           refine call_sub (ds' := [.agg (encEv e), .sl 29 (es.map encEv)]) (spec13 e es ha hb hs) rfl ?_ ?_
           · simp -implicitDefEqProofs only [SD, SF, SL, e_nf, reduceCtorEq, implies_true, ↓reduceIte, Nat.reduceEqDiff, Nat.reduceAdd, Nat.reduceMul, Nat.reduceSub, Nat.reduceLeDiff, Nat.reduceLT, Int.reduceLT, Int.reduceLE, Int.reduceEq, Int.reduceToNat, Int.reduceAdd, Int.reduceSub, Int.reduceNeg, Int.reduceBEq, Int.reduceBNe, Nat.reduceBEq, Int.cast_ofNat_Int, decide_true, decide_false, ne_eq, eq_self_iff_true, beq_eq_false_iff_ne, bne_iff_ne, List.replicate, encEv, *]
             done)
        | ((with_reducible refine of_kSpec ?_)
           refine call_sub (ds' := [.agg (encEv (stripEv e)), .sl 29 ((es.map stripEv).map encEv)]) (spec13 (stripEv e) (es.map stripEv) ha2 hb2 hs2) rfl ?_ ?_
           · simp -implicitDefEqProofs only [SD, SF, SL, e_nf, reduceCtorEq, implies_true, ↓reduceIte, Nat.reduceEqDiff, Nat.reduceAdd, Nat.reduceMul, Nat.reduceSub, Nat.reduceLeDiff, Nat.reduceLT, Int.reduceLT, Int.reduceLE, Int.reduceEq, Int.reduceToNat, Int.reduceAdd, Int.reduceSub, Int.reduceNeg, Int.reduceBEq, Int.reduceBNe, Nat.reduceBEq, Int.cast_ofNat_Int, decide_true, decide_false, ne_eq, eq_self_iff_true, beq_eq_false_iff_ne, bne_iff_ne, List.replicate, encEv, *]
             done)
        | ((with_reducible refine of_kSpec ?_); refine call_fz (spec12) rfl ?_)
        | (with_reducible refine ite_in (fun _ => ?_) (fun _ => ?_))
        | (with_reducible refine ⟨fun _ => ?_, fun _ => ?_⟩)
        | (with_reducible refine And.intro ?_ ?_)
        | (with_reducible intro _)
        | (with_reducible exact is_in _)
        | (simp -implicitDefEqProofs only [SD, SF, SL, e_nf, reduceCtorEq, implies_true, ↓reduceIte, Nat.reduceEqDiff, Nat.reduceAdd, Nat.reduceMul, Nat.reduceSub, Nat.reduceLeDiff, Nat.reduceLT, Int.reduceLT, Int.reduceLE, Int.reduceEq, Int.reduceToNat, Int.reduceAdd, Int.reduceSub, Int.reduceNeg, Int.reduceBEq, Int.reduceBNe, Nat.reduceBEq, Int.cast_ofNat_Int, decide_true, decide_false, ne_eq, eq_self_iff_true, beq_eq_false_iff_ne, bne_iff_ne, List.replicate, encEv, *]))))
      all_goals (simp_all)

    | cons x rest =>
      have hlt := cut_lt he
      have hx := cutD encEv he
      simp only [encEv] at hx
      simp -implicitDefEqProofs only [SD, SF, SL, e_nf, reduceCtorEq, implies_true, ↓reduceIte, Nat.reduceEqDiff, Nat.reduceAdd, Nat.reduceMul, Nat.reduceSub, Nat.reduceLeDiff, Nat.reduceLT, Int.reduceLT, Int.reduceLE, Int.reduceEq, Int.reduceToNat, Int.reduceAdd, Int.reduceSub, Int.reduceNeg, Int.reduceBEq, Int.reduceBNe, Nat.reduceBEq, Int.cast_ofNat_Int, decide_true, decide_false, ne_eq, eq_self_iff_true, beq_eq_false_iff_ne, bne_iff_ne, List.replicate, hlt]
      intro hl
      have hw := wrap_len (n := pre.length) (m := (es).length) (cut_lt' he) (by simpa using hl)
      replace he := Hd.mk he
      have hz1 := cut_lt' he.out
      have hz2 : pre.length + 1 ≤ maxLen := by
        simp only [maxLen]
        omega
      have hz3 : (pre.length + 1) * 376 ≤ 140737488355328 := by omega
      rcases hI with rfl | rfl
      iterate 30 (all_goals (try (first
        | ((with_reducible refine And.intro ?_ ?_); (simp only [maxLen, List.length_append, List.length_map, List.length_cons, List.length_nil]; omega))
        | ((with_reducible refine back_in rest.length [17, 18, 19, 20, 21, 22, 23, 24, 25, 26, 27, 28, 29, 30] [29] (pre ++ [x], rest, 30) ?_ ⟨?_, ?_, ?_⟩ ?_)
           · simp
           · exact cut_snoc he.out
           · rfl
           · first | rfl | assumption | (simp_all []; done) | grind []
           · first | (simp -implicitDefEqProofs only [SD, SF, SL, e_nf, reduceCtorEq, implies_true, ↓reduceIte, Nat.reduceEqDiff, Nat.reduceAdd, Nat.reduceMul, Nat.reduceSub, Nat.reduceLeDiff, Nat.reduceLT, Int.reduceLT, Int.reduceLE, Int.reduceEq, Int.reduceToNat, Int.reduceAdd, Int.reduceSub, Int.reduceNeg, Int.reduceBEq, Int.reduceBNe, Nat.reduceBEq, Int.cast_ofNat_Int, decide_true, decide_false, ne_eq, eq_self_iff_true, beq_eq_false_iff_ne, bne_iff_ne, List.replicate] <;> simp <;> done) | (simp -implicitDefEqProofs only [SD, SF, SL, e_nf, reduceCtorEq, implies_true, ↓reduceIte, Nat.reduceEqDiff, Nat.reduceAdd, Nat.reduceMul, Nat.reduceSub, Nat.reduceLeDiff, Nat.reduceLT, Int.reduceLT, Int.reduceLE, Int.reduceEq, Int.reduceToNat, Int.reduceAdd, Int.reduceSub, Int.reduceNeg, Int.reduceBEq, Int.reduceBNe, Nat.reduceBEq, Int.cast_ofNat_Int, decide_true, decide_false, ne_eq, eq_self_iff_true, beq_eq_false_iff_ne, bne_iff_ne, List.replicate, *] <;> simp_all <;> done))
        | ((with_reducible refine of_kSpec ?_)
           refine call_sub (ds' := [.agg (encEv x)]) (spec24 x) rfl ?_ ?_
           · simp -implicitDefEqProofs only [SD, SF, SL, e_nf, reduceCtorEq, implies_true, ↓reduceIte, Nat.reduceEqDiff, Nat.reduceAdd, Nat.reduceMul, Nat.reduceSub, Nat.reduceLeDiff, Nat.reduceLT, Int.reduceLT, Int.reduceLE, Int.reduceEq, Int.reduceToNat, Int.reduceAdd, Int.reduceSub, Int.reduceNeg, Int.reduceBEq, Int.reduceBNe, Nat.reduceBEq, Int.cast_ofNat_Int, decide_true, decide_false, ne_eq, eq_self_iff_true, beq_eq_false_iff_ne, bne_iff_ne, List.replicate, encEv, *]
             done)
        | (with_reducible refine ite_in (fun _ => ?_) (fun _ => ?_))
        | (with_reducible refine ⟨fun _ => ?_, fun _ => ?_⟩)
        | (with_reducible refine And.intro ?_ ?_)
        | (with_reducible intro _)
        | (with_reducible exact is_in _)
        | (simp -implicitDefEqProofs only [SD, SF, SL, e_nf, reduceCtorEq, implies_true, ↓reduceIte, Nat.reduceEqDiff, Nat.reduceAdd, Nat.reduceMul, Nat.reduceSub, Nat.reduceLeDiff, Nat.reduceLT, Int.reduceLT, Int.reduceLE, Int.reduceEq, Int.reduceToNat, Int.reduceAdd, Int.reduceSub, Int.reduceNeg, Int.reduceBEq, Int.reduceBNe, Nat.reduceBEq, Int.cast_ofNat_Int, decide_true, decide_false, ne_eq, eq_self_iff_true, beq_eq_false_iff_ne, bne_iff_ne, List.replicate, enc_len, enc_fz, enc_fz', *]))))
      all_goals (first | (simp only [maxLen, List.length_append, List.length_map, List.length_cons, List.length_nil]; omega) | (simp_all; done))

end Go.Proofs.Ytcpiaamaddfbcaa.E
