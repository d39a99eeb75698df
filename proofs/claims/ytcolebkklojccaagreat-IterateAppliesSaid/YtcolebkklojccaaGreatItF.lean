/-
  ItF: walks of functions of the program at data level.
-/
import Derived.Test.YtcolebkklojccaaGreatProg
import Derived.Test.YtcolebkklojccaaGreatEngZ
import Derived.Test.YtcolebkklojccaaGreatItD
import Derived.Test.YtcolebkklojccaaGreatItP
import Derived.Test.YtcolebkklojccaaGreatAuK
import Derived.KernelRfl
set_option linter.unusedVariables false
set_option linter.unusedSimpArgs false
namespace Go.Proofs.YtcolebkklojccaaGreat.E
open Go
set_option maxHeartbeats 4000000
set_option maxRecDepth 100000
set_option linter.unusedSimpArgs false
set_option linter.unusedVariables false
attribute [local congr] c_wp c_ops c_op c_opS c_run c_runS c_dt c_seq c_blk c_loop c_S c_put c_bind c_mv c_pick c_nt c_ng c_bin c_binI c_binS c_beq c_B c_eqa c_hd c_cells c_blkK c_box c_vec c_mp c_nck c_mks c_appn c_mkm c_mput c_mlk c_mrm c_take c_ld c_ldF c_cellsK c_st c_fld c_fldv c_ix c_ixp c_ixv c_ixs c_sub c_subs c_len c_lens c_src c_dst c_ow c_app c_ext c_mm c_conv c_str c_isn c_fill c_rows c_boxo c_frz c_frzO c_frzA c_frzV c_spec c_specO c_opsP c_opP c_runP c_specP c_Z c_qretP c_fz c_fn c_gv c_cond c_res1 c_resL c_ret c_qret c_ite c_unr c_nx c_bk c_cut c_is
attribute [local irreducible] dwp

def okE (es : List Ev) (st : List Ent) (e : Ev) : Bool := stateB e.kind && decide (allR e (baseG getS es st e) = 0)
def entOf (e : Ev) : Ent := ⟨e.kind, e.key, e.ident⟩
def stepR (es : List Ev) (st : List Ent) (i : Int) : List Ent := match es.find? (hasId i) with
  | none => st
  | some e => if okE es st e = true then setS st (entOf e) else st
def applyR (es : List Ev) (st : List Ent) (ids : List Int) : List Ent := ids.foldl (stepR es) st
theorem len_stepR (es : List Ev) (st : List Ent) (i : Int) : (stepR es st i).length ≤ st.length + 1 := by
  unfold stepR
  split
  · omega
  · split
    · exact len_setS _ _
    · omega
theorem len_applyR (es : List Ev) : ∀ (ids : List Int) (st : List Ent), (applyR es st ids).length ≤ st.length + ids.length
  | [], st => by simp [applyR]
  | i :: ids, st => by
    have h1 := len_applyR es ids (stepR es st i)
    have h2 := len_stepR es st i
    simp only [applyR, List.foldl_cons, List.length_cons] at *
    omega
theorem apply_snoc (es : List Ev) (st : List Ent) (l : List Int) (i : Int) : applyR es st (l ++ [i]) = stepR es (applyR es st l) i := by simp [applyR]
def smallE (es : List Ev) : Prop := ∀ e ∈ es, e.auth.length ≤ 1000 ∧ e.allow.length ≤ 1000 ∧ e.lv.users.length ≤ 1000 ∧ e.lv.kinds.length ≤ 1000 ∧ e.sender.length ≤ 100000 ∧ e.room.length ≤ 100000
theorem mem_ofL {es : List Ev} {l : List Int} {x : Ev} (h : x ∈ ofL es l) : x ∈ es := by
  unfold ofL at h
  obtain ⟨i, _, h⟩ := List.mem_filterMap.1 h
  exact List.mem_of_find?_eq_some h
theorem mem_baseG {g : List Ent → Ent → Int × Bool} {es : List Ev} {st : List Ent} {e x : Ev} (h : x ∈ baseG g es st e) : x ∈ es := by
  unfold baseG at h
  obtain ⟨q, _, h⟩ := List.mem_filterMap.1 h
  unfold pickG at h
  split at h
  · exact List.mem_of_find?_eq_some h
  · exact mem_ofL (List.mem_of_find?_eq_some h)
theorem qc_n (t n : Nat) (s : DS) : QC t n .normal s = (gt s.env t = .bool true ∧ s.env.length = n) := rfl
def ac31 : AC := (.seq (.ops [⟨(some 6), none, (.mv (.c .e0))⟩]) (.seq (.ops [⟨(some 10), none, (.mv (.t 0))⟩, ⟨(some 11), none, (.mv (.t 2))⟩, ⟨(some 12), none, (.call false 29 [(.t 10), (.t 11)])⟩, ⟨(some 9), none, (.mv (.t 12))⟩, ⟨(some 13), none, (.ext (.t 9) 0)⟩, ⟨(some 14), none, (.ext (.t 9) 1)⟩, ⟨(some 7), none, (.alloc [(.int .i64 0), (.str []), (.str []), (.int .i64 0), (.bool false), (.str []), (.int .i64 0), (.int .i64 0), .e0, .e0, (.str []), (.int .i64 0), (.int .i64 0), (.bool false), (.str []), .e0, .e0, .e0, .e0, (.int .i64 0), (.int .i64 0), (.int .i64 0), (.int .i64 0), (.int .i64 0), (.int .i64 0), (.int .i64 0), (.int .i64 0), (.str []), (.int .i64 0)])⟩, ⟨none, none, (.sto 29 (.t 7) (.t 13))⟩, ⟨(some 8), none, (.mv (.t 14))⟩]) (.seq (.seq (.draw (.q false ⟨(some 15), none, (.mv (.t 8))⟩ (.q false ⟨(some 16), none, (.nt (.t 15))⟩ (.q false ⟨(some 17), none, (.mv (.t 16))⟩ (.q false ⟨(some 18), (some (17, false)), (.fld 3 (.t 7))⟩ (.q false ⟨(some 19), (some (17, false)), (.ld false 1 (.t 18))⟩ (.op ⟨(some 20), (some (17, false)), (.call false 47 [(.t 19)])⟩ (.q false ⟨(some 21), (some (17, false)), (.nt (.t 20))⟩ (.q false ⟨(some 22), none, (.pick (.t 17) (.c (.bool true)) (.t 21))⟩ (.q false ⟨(some 23), none, (.mv (.t 22))⟩ (.q false ⟨(some 24), (some (23, false)), (.ld true 29 (.t 7))⟩ (.q false ⟨(some 25), (some (23, false)), (.mv (.t 0))⟩ (.q false ⟨(some 26), (some (23, false)), (.mv (.t 1))⟩ (.q false ⟨(some 27), (some (23, false)), (.ld true 29 (.t 7))⟩ (.op ⟨(some 28), (some (23, false)), (.call false 12 [(.t 25), (.t 26), (.t 27)])⟩ (.op ⟨(some 29), (some (23, false)), (.call false 48 [(.t 24), (.t 28)])⟩ (.q false ⟨(some 30), (some (23, false)), (.bin .neq (.t 29) (.c (.int .i64 0)))⟩ (.q false ⟨(some 31), none, (.pick (.t 23) (.c (.bool true)) (.t 30))⟩ .nil)))))))))))))))))) (.cond (.t 31) .bad .skip)) (.seq (.ops [⟨(some 34), none, (.mv (.t 1))⟩, ⟨(some 35), none, (.fld 3 (.t 7))⟩, ⟨(some 36), none, (.ld false 1 (.t 35))⟩, ⟨(some 37), none, (.fld 5 (.t 7))⟩, ⟨(some 38), none, (.ld false 1 (.t 37))⟩, ⟨(some 39), none, (.fld 0 (.t 7))⟩, ⟨(some 40), none, (.ld false 1 (.t 39))⟩, ⟨(some 41), none, (.call false 42 [(.t 34), (.t 36), (.t 38), (.t 40)])⟩, ⟨(some 6), none, (.mv (.t 41))⟩]) .ret))))
theorem tr31 : Tryz.f31.body.bind (trCode Tryz.prog) = some (strip ac31) := by kernel_rfl
theorem spec31 (es : List Ev) (st : List Ent) (i : Int) (hb : st.length ≤ 1000) (hE : smallE es) {e : Ev} (hf : es.find? (hasId i) = some e) (hok : okE es st e = true) : Spec Tryz.prog 31 [.fz (.sl 29 (es.map encEv)), .fz (.sl 3 (st.map encEnt)), .fz (.int .i64 i)] (.fz (.sl 3 ((setS st (entOf e)).map encEnt))) := by
  refine spec_at (n := 39) (ars := [(.t 6)]) (ac := ac31) Tryz.func31 (by kernel_rfl) (by kernel_rfl) tr31 (by kernel_rfl) ?_
  unfold ac31
  obtain ⟨e1, e2, e3, e4, e5, e6⟩ := hE e (List.mem_of_find?_eq_some hf)
  have hbase := spec12 es st e hb e1
  have hall := spec48 e (baseG getS es st e) (fun x hx => (hE x (mem_baseG hx)).2.1) (fun x hx => ⟨(hE x (mem_baseG hx)).2.2.1, (hE x (mem_baseG hx)).2.2.2.1⟩) ⟨e5, e6⟩
  clear e1 e2 e3 e4 e5 e6
  simp only [okE, Bool.and_eq_true, decide_eq_true_eq] at hok
  obtain ⟨hs1, hs2⟩ := hok
  show dwp _ _ _ (Qret _ (.fz (.sl 3 ((setS st ⟨e.kind, e.key, e.ident⟩).map encEnt))))
  iterate 40 (all_goals (try (first
    | ((with_reducible refine of_kSpec ?_); refine call_fz (spec29 es i) rfl ?_)
    | ((with_reducible refine of_kSpec ?_); refine call_fz (spec47 _) rfl ?_)
    | ((with_reducible refine of_kSpec ?_)
       refine call_sub (ds' := [.sl 29 (es.map encEv), .sl 3 (st.map encEnt), .agg (encEv e)]) (hbase) rfl ?_ ?_
       · simp -implicitDefEqProofs only [SD, SF, SL, e_nf, reduceCtorEq, implies_true, ↓reduceIte, Nat.reduceEqDiff, Nat.reduceAdd, Nat.reduceMul, Nat.reduceSub, Nat.reduceLeDiff, Nat.reduceLT, Int.reduceLT, Int.reduceLE, Int.reduceEq, Int.reduceToNat, Int.reduceAdd, Int.reduceSub, Int.reduceNeg, Int.reduceBEq, Int.reduceBNe, Nat.reduceBEq, Int.cast_ofNat_Int, decide_true, decide_false, ne_eq, eq_self_iff_true, beq_eq_false_iff_ne, bne_iff_ne, List.replicate, encEv, *]
         done)
    | ((with_reducible refine of_kSpec ?_)
       refine call_sub (ds' := [.agg (encEv e), .sl 29 ((baseG getS es st e).map encEv)]) (hall) rfl ?_ ?_
       · simp -implicitDefEqProofs only [SD, SF, SL, e_nf, reduceCtorEq, implies_true, ↓reduceIte, Nat.reduceEqDiff, Nat.reduceAdd, Nat.reduceMul, Nat.reduceSub, Nat.reduceLeDiff, Nat.reduceLT, Int.reduceLT, Int.reduceLE, Int.reduceEq, Int.reduceToNat, Int.reduceAdd, Int.reduceSub, Int.reduceNeg, Int.reduceBEq, Int.reduceBNe, Nat.reduceBEq, Int.cast_ofNat_Int, decide_true, decide_false, ne_eq, eq_self_iff_true, beq_eq_false_iff_ne, bne_iff_ne, List.replicate, encEv, *]
         done)
    | ((with_reducible refine of_kSpec ?_); refine call_fz (spec42 st e.kind e.key e.ident hb) rfl ?_)
    | (with_reducible refine ite_in (fun _ => ?_) (fun _ => ?_))
    | (with_reducible refine ⟨fun _ => ?_, fun _ => ?_⟩)
    | (with_reducible refine And.intro ?_ ?_)
    | (with_reducible intro _)
    | (with_reducible exact is_in _)
    | (simp -implicitDefEqProofs only [SD, SF, SL, e_nf, reduceCtorEq, implies_true, ↓reduceIte, Nat.reduceEqDiff, Nat.reduceAdd, Nat.reduceMul, Nat.reduceSub, Nat.reduceLeDiff, Nat.reduceLT, Int.reduceLT, Int.reduceLE, Int.reduceEq, Int.reduceToNat, Int.reduceAdd, Int.reduceSub, Int.reduceNeg, Int.reduceBEq, Int.reduceBNe, Nat.reduceBEq, Int.cast_ofNat_Int, decide_true, decide_false, ne_eq, eq_self_iff_true, beq_eq_false_iff_ne, bne_iff_ne, List.replicate, encEv, encEnt, zE, encN, encS, encLU, encLK, evOf_n, evOf_s, isS_n, isS_s, *]))))
  all_goals (first | (simp_all; done) | trace_state)

def ac31p : AC := (.seq (.ops [⟨(some 6), none, (.mv (.c .e0))⟩]) (.seq (.ops [⟨(some 10), none, (.mv (.t 0))⟩, ⟨(some 11), none, (.mv (.t 2))⟩, ⟨(some 12), none, (.call false 29 [(.t 10), (.t 11)])⟩, ⟨(some 9), none, (.mv (.t 12))⟩, ⟨(some 13), none, (.ext (.t 9) 0)⟩, ⟨(some 14), none, (.ext (.t 9) 1)⟩, ⟨(some 7), none, (.alloc [(.int .i64 0), (.str []), (.str []), (.int .i64 0), (.bool false), (.str []), (.int .i64 0), (.int .i64 0), .e0, .e0, (.str []), (.int .i64 0), (.int .i64 0), (.bool false), (.str []), .e0, .e0, .e0, .e0, (.int .i64 0), (.int .i64 0), (.int .i64 0), (.int .i64 0), (.int .i64 0), (.int .i64 0), (.int .i64 0), (.int .i64 0), (.str []), (.int .i64 0)])⟩, ⟨none, none, (.sto 29 (.t 7) (.t 13))⟩, ⟨(some 8), none, (.mv (.t 14))⟩]) (.draw (.q false ⟨(some 15), none, (.mv (.t 8))⟩ (.q false ⟨(some 16), none, (.nt (.t 15))⟩ (.q false ⟨(some 17), none, (.mv (.t 16))⟩ (.q false ⟨(some 18), (some (17, false)), (.fld 3 (.t 7))⟩ (.q false ⟨(some 19), (some (17, false)), (.ld false 1 (.t 18))⟩ (.op ⟨(some 20), (some (17, false)), (.call false 47 [(.t 19)])⟩ (.q false ⟨(some 21), (some (17, false)), (.nt (.t 20))⟩ (.q false ⟨(some 22), none, (.pick (.t 17) (.c (.bool true)) (.t 21))⟩ (.q false ⟨(some 23), none, (.mv (.t 22))⟩ (.q false ⟨(some 24), (some (23, false)), (.ld true 29 (.t 7))⟩ (.q false ⟨(some 25), (some (23, false)), (.mv (.t 0))⟩ (.q false ⟨(some 26), (some (23, false)), (.mv (.t 1))⟩ (.q false ⟨(some 27), (some (23, false)), (.ld true 29 (.t 7))⟩ (.op ⟨(some 28), (some (23, false)), (.call false 12 [(.t 25), (.t 26), (.t 27)])⟩ (.op ⟨(some 29), (some (23, false)), (.call false 48 [(.t 24), (.t 28)])⟩ (.q false ⟨(some 30), (some (23, false)), (.bin .neq (.t 29) (.c (.int .i64 0)))⟩ (.q false ⟨(some 31), none, (.pick (.t 23) (.c (.bool true)) (.t 30))⟩ .nil))))))))))))))))))))
theorem specP31_of {es : List Ev} {st : List Ent} {i : Int} (h : dwp Tryz.prog ac31p ⟨argE 0 ([DV.sl 29 (es.map encEv), .sl 3 (st.map encEnt), .int .i64 i].map .fz) ++ List.replicate 39 .any, argM 0 ([DV.sl 29 (es.map encEv), .sl 3 (st.map encEnt), .int .i64 i].map .fz)⟩ (QC 31 42)) : SpecP Tryz.prog 31 [.sl 29 (es.map encEv), .sl 3 (st.map encEnt), .int .i64 i] skipD := by
  refine specP_cut (fn := Tryz.f31) (n := 39) (m := 42) (t := 31) (x0 := (.ops [⟨(some 6), none, (.mv (.c .e0))⟩])) (x1 := (.ops [⟨(some 10), none, (.mv (.t 0))⟩, ⟨(some 11), none, (.mv (.t 2))⟩, ⟨(some 12), none, (.call false 29 [(.t 10), (.t 11)])⟩, ⟨(some 9), none, (.mv (.t 12))⟩, ⟨(some 13), none, (.ext (.t 9) 0)⟩, ⟨(some 14), none, (.ext (.t 9) 1)⟩, ⟨(some 7), none, (.alloc [(.int .i64 0), (.str []), (.str []), (.int .i64 0), (.bool false), (.str []), (.int .i64 0), (.int .i64 0), .e0, .e0, (.str []), (.int .i64 0), (.int .i64 0), (.bool false), (.str []), .e0, .e0, .e0, .e0, (.int .i64 0), (.int .i64 0), (.int .i64 0), (.int .i64 0), (.int .i64 0), (.int .i64 0), (.int .i64 0), (.int .i64 0), (.str []), (.int .i64 0)])⟩, ⟨none, none, (.sto 29 (.t 7) (.t 13))⟩, ⟨(some 8), none, (.mv (.t 14))⟩])) (xA := (.draw (.q false ⟨(some 15), none, (.mv (.t 8))⟩ (.q false ⟨(some 16), none, (.nt (.t 15))⟩ (.q false ⟨(some 17), none, (.mv (.t 16))⟩ (.q false ⟨(some 18), (some (17, false)), (.fld 3 (.t 7))⟩ (.q false ⟨(some 19), (some (17, false)), (.ld false 1 (.t 18))⟩ (.op ⟨(some 20), (some (17, false)), (.call false 47 [(.t 19)])⟩ (.q false ⟨(some 21), (some (17, false)), (.nt (.t 20))⟩ (.q false ⟨(some 22), none, (.pick (.t 17) (.c (.bool true)) (.t 21))⟩ (.q false ⟨(some 23), none, (.mv (.t 22))⟩ (.q false ⟨(some 24), (some (23, false)), (.ld true 29 (.t 7))⟩ (.q false ⟨(some 25), (some (23, false)), (.mv (.t 0))⟩ (.q false ⟨(some 26), (some (23, false)), (.mv (.t 1))⟩ (.q false ⟨(some 27), (some (23, false)), (.ld true 29 (.t 7))⟩ (.op ⟨(some 28), (some (23, false)), (.call false 12 [(.t 25), (.t 26), (.t 27)])⟩ (.op ⟨(some 29), (some (23, false)), (.call false 48 [(.t 24), (.t 28)])⟩ (.q false ⟨(some 30), (some (23, false)), (.bin .neq (.t 29) (.c (.int .i64 0)))⟩ (.q false ⟨(some 31), none, (.pick (.t 23) (.c (.bool true)) (.t 30))⟩ .nil))))))))))))))))))) Tryz.func31 (by kernel_rfl) rfl (by kernel_rfl) (by kernel_rfl) (by kernel_rfl) (by kernel_rfl) h ?_
  intro O F0 w0 M F s a w hi hl
  exact skip_wp hi hl
theorem specP31_none (es : List Ev) (st : List Ent) (i : Int) (hf : es.find? (hasId i) = none) : SpecP Tryz.prog 31 [.sl 29 (es.map encEv), .sl 3 (st.map encEnt), .int .i64 i] skipD := by
  refine specP31_of ?_
  unfold ac31p
  iterate 40 (all_goals (try (first
    | ((with_reducible refine of_kSpec ?_); refine call_fz (spec29 es i) rfl ?_)
    | ((with_reducible refine of_kSpec ?_); refine call_fz (spec47 _) rfl ?_)
    | ((with_reducible refine of_kSpec ?_)
       refine call_sub (ds' := [.sl 29 (es.map encEv), .sl 3 (st.map encEnt), .agg (encEv e)]) (hbase) rfl ?_ ?_
       · simp -implicitDefEqProofs only [SD, SF, SL, e_nf, reduceCtorEq, implies_true, ↓reduceIte, Nat.reduceEqDiff, Nat.reduceAdd, Nat.reduceMul, Nat.reduceSub, Nat.reduceLeDiff, Nat.reduceLT, Int.reduceLT, Int.reduceLE, Int.reduceEq, Int.reduceToNat, Int.reduceAdd, Int.reduceSub, Int.reduceNeg, Int.reduceBEq, Int.reduceBNe, Nat.reduceBEq, Int.cast_ofNat_Int, decide_true, decide_false, ne_eq, eq_self_iff_true, beq_eq_false_iff_ne, bne_iff_ne, List.replicate, encEv, *]
         done)
    | ((with_reducible refine of_kSpec ?_)
       refine call_sub (ds' := [.agg (encEv e), .sl 29 ((baseG getS es st e).map encEv)]) (hall) rfl ?_ ?_
       · simp -implicitDefEqProofs only [SD, SF, SL, e_nf, reduceCtorEq, implies_true, ↓reduceIte, Nat.reduceEqDiff, Nat.reduceAdd, Nat.reduceMul, Nat.reduceSub, Nat.reduceLeDiff, Nat.reduceLT, Int.reduceLT, Int.reduceLE, Int.reduceEq, Int.reduceToNat, Int.reduceAdd, Int.reduceSub, Int.reduceNeg, Int.reduceBEq, Int.reduceBNe, Nat.reduceBEq, Int.cast_ofNat_Int, decide_true, decide_false, ne_eq, eq_self_iff_true, beq_eq_false_iff_ne, bne_iff_ne, List.replicate, encEv, *]
         done)
    | ((with_reducible refine of_kSpec ?_); refine call_fz (spec42 st e.kind e.key e.ident hb) rfl ?_)
    | (with_reducible refine ite_in (fun _ => ?_) (fun _ => ?_))
    | (with_reducible refine ⟨fun _ => ?_, fun _ => ?_⟩)
    | (with_reducible refine And.intro ?_ ?_)
    | (with_reducible intro _)
    | (with_reducible exact is_in _)
    | (simp -implicitDefEqProofs only [SD, SF, SL, e_nf, reduceCtorEq, implies_true, ↓reduceIte, Nat.reduceEqDiff, Nat.reduceAdd, Nat.reduceMul, Nat.reduceSub, Nat.reduceLeDiff, Nat.reduceLT, Int.reduceLT, Int.reduceLE, Int.reduceEq, Int.reduceToNat, Int.reduceAdd, Int.reduceSub, Int.reduceNeg, Int.reduceBEq, Int.reduceBNe, Nat.reduceBEq, Int.cast_ofNat_Int, decide_true, decide_false, ne_eq, eq_self_iff_true, beq_eq_false_iff_ne, bne_iff_ne, List.replicate, encEv, encEnt, zE, encN, encS, encLU, encLK, evOf_n, evOf_s, isS_n, isS_s, qc_n, *]))))
  all_goals (first | (simp_all; done) | trace_state)
theorem specP31_some (es : List Ev) (st : List Ent) (i : Int) (hb : st.length ≤ 1000) (hE : smallE es) {e : Ev} (hf : es.find? (hasId i) = some e) (hok : okE es st e = false) : SpecP Tryz.prog 31 [.sl 29 (es.map encEv), .sl 3 (st.map encEnt), .int .i64 i] skipD := by
  refine specP31_of ?_
  unfold ac31p
  obtain ⟨e1, e2, e3, e4, e5, e6⟩ := hE e (List.mem_of_find?_eq_some hf)
  have hbase := spec12 es st e hb e1
  have hall := spec48 e (baseG getS es st e) (fun x hx => (hE x (mem_baseG hx)).2.1) (fun x hx => ⟨(hE x (mem_baseG hx)).2.2.1, (hE x (mem_baseG hx)).2.2.2.1⟩) ⟨e5, e6⟩
  clear e1 e2 e3 e4 e5 e6
  simp only [okE, Bool.and_eq_false_iff, decide_eq_false_iff_not] at hok
  cases hs1 : stateB e.kind
  · skip
    iterate 40 (all_goals (try (first
      | ((with_reducible refine of_kSpec ?_); refine call_fz (spec29 es i) rfl ?_)
      | ((with_reducible refine of_kSpec ?_); refine call_fz (spec47 _) rfl ?_)
      | ((with_reducible refine of_kSpec ?_)
         refine call_sub (ds' := [.sl 29 (es.map encEv), .sl 3 (st.map encEnt), .agg (encEv e)]) (hbase) rfl ?_ ?_
         · simp -implicitDefEqProofs only [SD, SF, SL, e_nf, reduceCtorEq, implies_true, ↓reduceIte, Nat.reduceEqDiff, Nat.reduceAdd, Nat.reduceMul, Nat.reduceSub, Nat.reduceLeDiff, Nat.reduceLT, Int.reduceLT, Int.reduceLE, Int.reduceEq, Int.reduceToNat, Int.reduceAdd, Int.reduceSub, Int.reduceNeg, Int.reduceBEq, Int.reduceBNe, Nat.reduceBEq, Int.cast_ofNat_Int, decide_true, decide_false, ne_eq, eq_self_iff_true, beq_eq_false_iff_ne, bne_iff_ne, List.replicate, encEv, *]
           done)
      | ((with_reducible refine of_kSpec ?_)
         refine call_sub (ds' := [.agg (encEv e), .sl 29 ((baseG getS es st e).map encEv)]) (hall) rfl ?_ ?_
         · simp -implicitDefEqProofs only [SD, SF, SL, e_nf, reduceCtorEq, implies_true, ↓reduceIte, Nat.reduceEqDiff, Nat.reduceAdd, Nat.reduceMul, Nat.reduceSub, Nat.reduceLeDiff, Nat.reduceLT, Int.reduceLT, Int.reduceLE, Int.reduceEq, Int.reduceToNat, Int.reduceAdd, Int.reduceSub, Int.reduceNeg, Int.reduceBEq, Int.reduceBNe, Nat.reduceBEq, Int.cast_ofNat_Int, decide_true, decide_false, ne_eq, eq_self_iff_true, beq_eq_false_iff_ne, bne_iff_ne, List.replicate, encEv, *]
           done)
      | ((with_reducible refine of_kSpec ?_); refine call_fz (spec42 st e.kind e.key e.ident hb) rfl ?_)
      | (with_reducible refine ite_in (fun _ => ?_) (fun _ => ?_))
      | (with_reducible refine ⟨fun _ => ?_, fun _ => ?_⟩)
      | (with_reducible refine And.intro ?_ ?_)
      | (with_reducible intro _)
      | (with_reducible exact is_in _)
      | (simp -implicitDefEqProofs only [SD, SF, SL, e_nf, reduceCtorEq, implies_true, ↓reduceIte, Nat.reduceEqDiff, Nat.reduceAdd, Nat.reduceMul, Nat.reduceSub, Nat.reduceLeDiff, Nat.reduceLT, Int.reduceLT, Int.reduceLE, Int.reduceEq, Int.reduceToNat, Int.reduceAdd, Int.reduceSub, Int.reduceNeg, Int.reduceBEq, Int.reduceBNe, Nat.reduceBEq, Int.cast_ofNat_Int, decide_true, decide_false, ne_eq, eq_self_iff_true, beq_eq_false_iff_ne, bne_iff_ne, List.replicate, encEv, encEnt, zE, encN, encS, encLU, encLK, evOf_n, evOf_s, isS_n, isS_s, qc_n, *]))))
    all_goals (first | (simp_all; done) | trace_state)
  · have hs2 : ¬ allR e (baseG getS es st e) = 0 := by
      rcases hok with h | h
      · rw [hs1] at h; cases h
      · exact h
    clear hok
    iterate 40 (all_goals (try (first
      | ((with_reducible refine of_kSpec ?_); refine call_fz (spec29 es i) rfl ?_)
      | ((with_reducible refine of_kSpec ?_); refine call_fz (spec47 _) rfl ?_)
      | ((with_reducible refine of_kSpec ?_)
         refine call_sub (ds' := [.sl 29 (es.map encEv), .sl 3 (st.map encEnt), .agg (encEv e)]) (hbase) rfl ?_ ?_
         · simp -implicitDefEqProofs only [SD, SF, SL, e_nf, reduceCtorEq, implies_true, ↓reduceIte, Nat.reduceEqDiff, Nat.reduceAdd, Nat.reduceMul, Nat.reduceSub, Nat.reduceLeDiff, Nat.reduceLT, Int.reduceLT, Int.reduceLE, Int.reduceEq, Int.reduceToNat, Int.reduceAdd, Int.reduceSub, Int.reduceNeg, Int.reduceBEq, Int.reduceBNe, Nat.reduceBEq, Int.cast_ofNat_Int, decide_true, decide_false, ne_eq, eq_self_iff_true, beq_eq_false_iff_ne, bne_iff_ne, List.replicate, encEv, *]
           done)
      | ((with_reducible refine of_kSpec ?_)
         refine call_sub (ds' := [.agg (encEv e), .sl 29 ((baseG getS es st e).map encEv)]) (hall) rfl ?_ ?_
         · simp -implicitDefEqProofs only [SD, SF, SL, e_nf, reduceCtorEq, implies_true, ↓reduceIte, Nat.reduceEqDiff, Nat.reduceAdd, Nat.reduceMul, Nat.reduceSub, Nat.reduceLeDiff, Nat.reduceLT, Int.reduceLT, Int.reduceLE, Int.reduceEq, Int.reduceToNat, Int.reduceAdd, Int.reduceSub, Int.reduceNeg, Int.reduceBEq, Int.reduceBNe, Nat.reduceBEq, Int.cast_ofNat_Int, decide_true, decide_false, ne_eq, eq_self_iff_true, beq_eq_false_iff_ne, bne_iff_ne, List.replicate, encEv, *]
           done)
      | ((with_reducible refine of_kSpec ?_); refine call_fz (spec42 st e.kind e.key e.ident hb) rfl ?_)
      | (with_reducible refine ite_in (fun _ => ?_) (fun _ => ?_))
      | (with_reducible refine ⟨fun _ => ?_, fun _ => ?_⟩)
      | (with_reducible refine And.intro ?_ ?_)
      | (with_reducible intro _)
      | (with_reducible exact is_in _)
      | (simp -implicitDefEqProofs only [SD, SF, SL, e_nf, reduceCtorEq, implies_true, ↓reduceIte, Nat.reduceEqDiff, Nat.reduceAdd, Nat.reduceMul, Nat.reduceSub, Nat.reduceLeDiff, Nat.reduceLT, Int.reduceLT, Int.reduceLE, Int.reduceEq, Int.reduceToNat, Int.reduceAdd, Int.reduceSub, Int.reduceNeg, Int.reduceBEq, Int.reduceBNe, Nat.reduceBEq, Int.cast_ofNat_Int, decide_true, decide_false, ne_eq, eq_self_iff_true, beq_eq_false_iff_ne, bne_iff_ne, List.replicate, encEv, encEnt, zE, encN, encS, encLU, encLK, evOf_n, evOf_s, isS_n, isS_s, qc_n, *]))))
    all_goals (first | (simp_all; done) | trace_state)
theorem spec16 (es : List Ev) (st : List Ent) (i : Int) (hb : st.length ≤ 1000) (hE : smallE es) : Spec Tryz.prog 16 [.fz (.sl 29 (es.map encEv)), .fz (.sl 3 (st.map encEnt)), .fz (.int .i64 i)] (.fz (.sl 3 ((stepR es st i).map encEnt))) := by
  unfold stepR
  cases hf : es.find? (hasId i) with
  | none => exact spec_step_pan (specP31_none es st i hf)
  | some e =>
    cases hok : okE es st e with
    | false =>
      dsimp only
      rw [if_neg (by rw [hok]; exact Bool.false_ne_true)]
      exact spec_step_pan (specP31_some es st i hb hE hf hok)
    | true =>
      dsimp only
      rw [if_pos hok]
      exact spec_step_ret (spec31 es st i hb hE hf hok)

end Go.Proofs.YtcolebkklojccaaGreat.E

namespace Go.Proofs.YtcolebkklojccaaGreat.E
open Go
set_option maxHeartbeats 4000000
set_option maxRecDepth 100000
set_option linter.unusedSimpArgs false
set_option linter.unusedVariables false
attribute [local congr] c_wp c_ops c_op c_opS c_run c_runS c_dt c_seq c_blk c_loop c_S c_put c_bind c_mv c_pick c_nt c_ng c_bin c_binI c_binS c_beq c_B c_eqa c_hd c_cells c_blkK c_box c_vec c_mp c_nck c_mks c_appn c_mkm c_mput c_mlk c_mrm c_take c_ld c_ldF c_cellsK c_st c_fld c_fldv c_ix c_ixp c_ixv c_ixs c_sub c_subs c_len c_lens c_src c_dst c_ow c_app c_ext c_mm c_conv c_str c_isn c_fill c_rows c_boxo c_frz c_frzO c_frzA c_frzV c_spec c_specO c_opsP c_opP c_runP c_specP c_Z c_qretP c_fz c_fn c_gv c_cond c_res1 c_resL c_ret c_qret c_ite c_unr c_nx c_bk c_cut c_is
attribute [local irreducible] dwp
def ac7 : AC := (.seq (.ops [⟨(some 6), none, (.mv (.c .e0))⟩]) (.seq (.ops [⟨(some 10), none, (.mv (.t 1))⟩, ⟨(some 11), none, (.call false 15 [(.t 10)])⟩, ⟨(some 7), none, (.mv (.t 11))⟩]) (.seq (.seq (.ops [⟨(some 12), none, (.mv (.t 2))⟩, ⟨(some 13), none, (.len (.t 12))⟩, ⟨(some 14), none, (.mv (.c (.int .i64 0)))⟩]) (.block 0 (.loop (.seq (.ops [⟨(some 15), none, (.bin .lss (.t 14) (.t 13))⟩]) (.seq (.cond (.t 15) .skip (.exit 0)) (.seq (.block 1 (.seq (.ops [⟨(some 16), none, (.ix 1 (.t 12) (.t 14))⟩, ⟨(some 17), none, (.ld false 1 (.t 16))⟩, ⟨(some 9), none, (.mv (.t 17))⟩]) (.ops [⟨(some 18), none, (.mv (.t 0))⟩, ⟨(some 19), none, (.mv (.t 7))⟩, ⟨(some 20), none, (.mv (.t 9))⟩, ⟨(some 21), none, (.call false 16 [(.t 18), (.t 19), (.t 20)])⟩, ⟨(some 7), none, (.mv (.t 21))⟩]))) (.ops [⟨(some 22), none, (.bin .add (.t 14) (.c (.int .i64 1)))⟩, ⟨(some 14), none, (.mv (.t 22))⟩]))))))) (.seq (.ops [⟨(some 23), none, (.mv (.t 7))⟩, ⟨(some 6), none, (.mv (.t 23))⟩]) .ret))))
theorem tr7 : Tryz.f7.body.bind (trCode Tryz.prog) = some (strip ac7) := by kernel_rfl
theorem spec7 (es : List Ev) (st : List Ent) (ids : List Int) (hb : st.length ≤ 100) (hi : ids.length ≤ 100) (hE : smallE es) : Spec Tryz.prog 7 [.fz (.sl 29 (es.map encEv)), .fz (.sl 3 (st.map encEnt)), .fz (.sl 1 (ids.map encN))] (.fz (.sl 3 ((applyR es st ids).map encEnt))) := by
  refine spec_at (n := 21) (ars := [(.t 6)]) (ac := ac7) Tryz.func7 (by kernel_rfl) (by kernel_rfl) tr7 (by kernel_rfl) ?_
  unfold ac7
  iterate 10 (all_goals (try (first
    | ((with_reducible refine of_kSpec ?_); refine call_fz (spec15 st (by omega)) rfl ?_)
    | (with_reducible refine ite_in (fun _ => ?_) (fun _ => ?_))
    | (with_reducible refine ⟨fun _ => ?_, fun _ => ?_⟩)
    | (with_reducible refine And.intro ?_ ?_)
    | (with_reducible intro _)
    | (with_reducible exact is_in _)
    | (simp -implicitDefEqProofs only [SD, SF, SL, e_nf, reduceCtorEq, implies_true, ↓reduceIte, Nat.reduceEqDiff, Nat.reduceAdd, Nat.reduceMul, Nat.reduceSub, Nat.reduceLeDiff, Nat.reduceLT, Int.reduceLT, Int.reduceLE, Int.reduceEq, Int.reduceToNat, Int.reduceAdd, Int.reduceSub, Int.reduceNeg, Int.reduceBEq, Int.reduceBNe, Nat.reduceBEq, Int.cast_ofNat_Int, decide_true, decide_false, ne_eq, eq_self_iff_true, beq_eq_false_iff_ne, bne_iff_ne, List.replicate, *]))))
  refine loop_q (X := List Int × List Int × List Ent) (fun n x => ids = x.1 ++ x.2.1 ∧ n = x.2.1.length ∧ (x.2.2 = applyR es st x.1)) (fun x => [(14, .int .i64 x.1.length), (7, .sl 3 (x.2.2.map encEnt))]) (fun _ => []) [9, 15, 16, 17, 18, 19, 20, 21, 22] []  (ids).length ([], ids, st) ⟨rfl, rfl, by rfl⟩ ?_ ?_
  · simp -implicitDefEqProofs only [SD, SF, SL, e_nf, reduceCtorEq, implies_true, ↓reduceIte, Nat.reduceEqDiff, Nat.reduceAdd, Nat.reduceMul, Nat.reduceSub, Nat.reduceLeDiff, Nat.reduceLT, Int.reduceLT, Int.reduceLE, Int.reduceEq, Int.reduceToNat, Int.reduceAdd, Int.reduceSub, Int.reduceNeg, Int.reduceBEq, Int.reduceBNe, Nat.reduceBEq, Int.cast_ofNat_Int, decide_true, decide_false, ne_eq, eq_self_iff_true, beq_eq_false_iff_ne, bne_iff_ne, List.replicate, encN] <;> simp
  · rintro n ⟨pre, rest, a⟩ ⟨he, rfl, hI⟩
    dsimp only at he hI
    cases rest with
    | nil =>
      obtain rfl : ids = pre := by simpa using he
      clear he
      have hlt : ¬ (((ids).length : Int) < ((ids).length : Int)) := Int.lt_irrefl _
      subst hI
      iterate 30 (all_goals (try (first
        | ((with_reducible refine of_kSpec ?_); refine call_fz (spec16 es a x hal hE) rfl ?_)
        | (with_reducible refine ite_in (fun _ => ?_) (fun _ => ?_))
        | (with_reducible refine ⟨fun _ => ?_, fun _ => ?_⟩)
        | (with_reducible refine And.intro ?_ ?_)
        | (with_reducible intro _)
        | (with_reducible exact is_in _)
        | (simp -implicitDefEqProofs only [SD, SF, SL, e_nf, reduceCtorEq, implies_true, ↓reduceIte, Nat.reduceEqDiff, Nat.reduceAdd, Nat.reduceMul, Nat.reduceSub, Nat.reduceLeDiff, Nat.reduceLT, Int.reduceLT, Int.reduceLE, Int.reduceEq, Int.reduceToNat, Int.reduceAdd, Int.reduceSub, Int.reduceNeg, Int.reduceBEq, Int.reduceBNe, Nat.reduceBEq, Int.cast_ofNat_Int, decide_true, decide_false, ne_eq, eq_self_iff_true, beq_eq_false_iff_ne, bne_iff_ne, List.replicate, encN, *]))))
      all_goals (first | (simp_all; done) | trace_state)

    | cons x rest =>
      have hlt := cut_lt he
      have hx := cutD encN he
      simp only [encN] at hx
      have hw := wrap_len (n := pre.length) (m := (ids).length) (cut_lt' he) (by simp only [maxLen]; omega)
      replace he := Hd.mk he
      have hal : a.length ≤ 1000 := by
        have h1 := len_applyR es pre st
        have h2 := cut_lt' he.out
        rw [hI]
        omega
      replace hI := Hd.mk hI
      iterate 30 (all_goals (try (first
        | ((with_reducible refine back_in rest.length [9, 15, 16, 17, 18, 19, 20, 21, 22] [] (pre ++ [x], rest, stepR es a x) ?_ ⟨?_, ?_, ?_⟩ ?_)
           · simp
           · exact cut_snoc he.out
           · rfl
           · first | rfl | (rw [hI.out, apply_snoc])
           · first | (simp -implicitDefEqProofs only [SD, SF, SL, e_nf, reduceCtorEq, implies_true, ↓reduceIte, Nat.reduceEqDiff, Nat.reduceAdd, Nat.reduceMul, Nat.reduceSub, Nat.reduceLeDiff, Nat.reduceLT, Int.reduceLT, Int.reduceLE, Int.reduceEq, Int.reduceToNat, Int.reduceAdd, Int.reduceSub, Int.reduceNeg, Int.reduceBEq, Int.reduceBNe, Nat.reduceBEq, Int.cast_ofNat_Int, decide_true, decide_false, ne_eq, eq_self_iff_true, beq_eq_false_iff_ne, bne_iff_ne, List.replicate, encN] <;> simp <;> done) | (simp -implicitDefEqProofs only [SD, SF, SL, e_nf, reduceCtorEq, implies_true, ↓reduceIte, Nat.reduceEqDiff, Nat.reduceAdd, Nat.reduceMul, Nat.reduceSub, Nat.reduceLeDiff, Nat.reduceLT, Int.reduceLT, Int.reduceLE, Int.reduceEq, Int.reduceToNat, Int.reduceAdd, Int.reduceSub, Int.reduceNeg, Int.reduceBEq, Int.reduceBNe, Nat.reduceBEq, Int.cast_ofNat_Int, decide_true, decide_false, ne_eq, eq_self_iff_true, beq_eq_false_iff_ne, bne_iff_ne, List.replicate, encN, *] <;> simp_all <;> done))
        | ((with_reducible refine of_kSpec ?_); refine call_fz (spec16 es a x hal hE) rfl ?_)
        | (with_reducible refine ite_in (fun _ => ?_) (fun _ => ?_))
        | (with_reducible refine ⟨fun _ => ?_, fun _ => ?_⟩)
        | (with_reducible refine And.intro ?_ ?_)
        | (with_reducible intro _)
        | (with_reducible exact is_in _)
        | (simp -implicitDefEqProofs only [SD, SF, SL, e_nf, reduceCtorEq, implies_true, ↓reduceIte, Nat.reduceEqDiff, Nat.reduceAdd, Nat.reduceMul, Nat.reduceSub, Nat.reduceLeDiff, Nat.reduceLT, Int.reduceLT, Int.reduceLE, Int.reduceEq, Int.reduceToNat, Int.reduceAdd, Int.reduceSub, Int.reduceNeg, Int.reduceBEq, Int.reduceBNe, Nat.reduceBEq, Int.cast_ofNat_Int, decide_true, decide_false, ne_eq, eq_self_iff_true, beq_eq_false_iff_ne, bne_iff_ne, List.replicate, encN, *]))))
      all_goals (first | (simp_all; done) | trace_state)

end Go.Proofs.YtcolebkklojccaaGreat.E
