/-
  ItD: walks of functions of the program at data level.
-/
import Derived.Test.YtcolebkklojccaaGreatProg
import Derived.Test.YtcolebkklojccaaGreatEngZ
import Derived.Test.YtcolebkklojccaaGreatItC
import Derived.KernelRfl
set_option linter.unusedVariables false
set_option linter.unusedSimpArgs false
namespace Go.Proofs.YtcolebkklojccaaGreat.E
open Go
set_option maxHeartbeats 4000000
set_option maxRecDepth 100000
set_option linter.unusedSimpArgs false
set_option linter.unusedVariables false
attribute [local congr] c_wp c_ops c_op c_opS c_run c_runS c_dt c_seq c_blk c_loop c_S c_put c_bind c_mv c_pick c_nt c_ng c_bin c_binI c_binS c_beq c_B c_eqa c_hd c_cells c_blkK c_box c_vec c_mp c_nck c_mks c_appn c_mkm c_mput c_mlk c_mrm c_take c_ld c_ldF c_cellsK c_st c_fld c_fldv c_ix c_ixp c_ixv c_ixs c_sub c_subs c_len c_lens c_src c_dst c_ow c_app c_ext c_mm c_conv c_str c_isn c_fill c_rows c_boxo c_frz c_frzO c_frzA c_frzV c_spec c_specO c_opsP c_opP c_runP c_specP c_Z c_qretP c_fz c_fn c_gv c_cond c_res1 c_resL c_ret c_qret c_ite c_unr c_nx c_bk c_cut c_is
attribute [local irreducible] dwp

def pickG (g : List Ent → Ent → Int × Bool) (es : List Ev) (st : List Ent) (nm : List Ev) (q : Ent) : Option Ev := if (g st ⟨q.kind, q.key, 0⟩).2 = true then es.find? (hasId (g st ⟨q.kind, q.key, 0⟩).1) else nm.find? (hasKey ⟨q.kind, q.key, 0⟩)
theorem pick_cases (g : List Ent → Ent → Int × Bool) (es : List Ev) (st : List Ent) (nm : List Ev) (q : Ent) :
    (∃ gi, g st ⟨q.kind, q.key, 0⟩ = (gi, true) ∧ es.find? (hasId gi) = none ∧ pickG g es st nm q = none) ∨ (∃ gi v, g st ⟨q.kind, q.key, 0⟩ = (gi, true) ∧ es.find? (hasId gi) = some v ∧ pickG g es st nm q = some v) ∨
    (∃ gi, g st ⟨q.kind, q.key, 0⟩ = (gi, false) ∧ nm.find? (hasKey ⟨q.kind, q.key, 0⟩) = none ∧ pickG g es st nm q = none) ∨ (∃ gi v, g st ⟨q.kind, q.key, 0⟩ = (gi, false) ∧ nm.find? (hasKey ⟨q.kind, q.key, 0⟩) = some v ∧ pickG g es st nm q = some v) := by
  unfold pickG
  rcases hg : g st ⟨q.kind, q.key, 0⟩ with ⟨gi, gb⟩
  cases gb
  · cases hf : nm.find? (hasKey ⟨q.kind, q.key, 0⟩) with
    | none => exact .inr (.inr (.inl ⟨gi, rfl, rfl, by simp⟩))
    | some v => exact .inr (.inr (.inr ⟨gi, v, rfl, rfl, by simp⟩))
  · cases hf : es.find? (hasId gi) with
    | none => exact .inl ⟨gi, rfl, hf, by simp [hf]⟩
    | some v => exact .inr (.inl ⟨gi, v, rfl, hf, by simp [hf]⟩)
theorem pf_none {p : Ent → Option Ev} {l : List Ent} {x : Ent} (h : p x = none) : (l ++ [x]).filterMap p = l.filterMap p := by simp [h]
theorem pf_some {p : Ent → Option Ev} {l : List Ent} {x : Ent} {v : Ev} (h : p x = some v) : (l ++ [x]).filterMap p = l.filterMap p ++ [v] := by simp [h]
def baseG (g : List Ent → Ent → Int × Bool) (es : List Ev) (st : List Ent) (e : Ev) : List Ev := (keysE e).filterMap (pickG g es st (ofL es e.auth))
theorem len_baseG (g : List Ent → Ent → Int × Bool) (es : List Ev) (st : List Ent) (e : Ev) : (baseG g es st e).length ≤ 5 := Nat.le_trans (List.length_filterMap_le _ _) (len_keysE e)
theorem hasKey_q (q : Ent) : hasKey q = hasKey ⟨q.kind, q.key, 0⟩ := rfl
def ac12 : AC := (.seq (.ops [⟨(some 5), none, (.box (.t 2))⟩, ⟨(some 6), none, (.mv (.c .e0))⟩]) (.seq (.ops [⟨(some 15), none, (.mv (.t 0))⟩, ⟨(some 16), none, (.fld 9 (.t 5))⟩, ⟨(some 17), none, (.ld false 1 (.t 16))⟩, ⟨(some 18), none, (.call false 25 [(.t 15), (.t 17)])⟩, ⟨(some 7), none, (.mv (.t 18))⟩]) (.seq (.ops [⟨(some 19), none, (.mks 46 29 376 (.c (.int .i64 0)) (.c (.int .i64 5)))⟩, ⟨(some 8), none, (.mv (.t 19))⟩]) (.seq (.seq (.ops [⟨(some 20), none, (.ld true 29 (.t 5))⟩, ⟨(some 21), none, (.call false 26 [(.t 20)])⟩, ⟨(some 22), none, (.len (.t 21))⟩, ⟨(some 23), none, (.mv (.c (.int .i64 0)))⟩]) (.block 0 (.loop (.seq (.ops [⟨(some 24), none, (.bin .lss (.t 23) (.t 22))⟩]) (.seq (.cond (.t 24) .skip (.exit 0)) (.seq (.block 1 (.seq (.ops [⟨(some 25), none, (.ix 3 (.t 21) (.t 23))⟩, ⟨(some 26), none, (.ld true 3 (.t 25))⟩, ⟨(some 10), none, (.alloc [(.int .i64 0), (.str []), (.int .i64 0)])⟩, ⟨none, none, (.sto 3 (.t 10) (.t 26))⟩]) (.seq (.ops [⟨(some 28), none, (.mv (.t 7))⟩, ⟨(some 29), none, (.ld true 3 (.t 10))⟩, ⟨(some 30), none, (.call false 27 [(.t 28), (.t 29)])⟩, ⟨(some 27), none, (.mv (.t 30))⟩, ⟨(some 31), none, (.ext (.t 27) 0)⟩, ⟨(some 32), none, (.ext (.t 27) 1)⟩, ⟨(some 11), none, (.alloc [(.int .i64 0), (.str []), (.str []), (.int .i64 0), (.bool false), (.str []), (.int .i64 0), (.int .i64 0), .e0, .e0, (.str []), (.int .i64 0), (.int .i64 0), (.bool false), (.str []), .e0, .e0, .e0, .e0, (.int .i64 0), (.int .i64 0), (.int .i64 0), (.int .i64 0), (.int .i64 0), (.int .i64 0), (.int .i64 0), (.int .i64 0), (.str []), (.int .i64 0)])⟩, ⟨none, none, (.sto 29 (.t 11) (.t 31))⟩, ⟨(some 12), none, (.mv (.t 32))⟩]) (.seq (.seq (.ops [⟨(some 34), none, (.mv (.t 1))⟩, ⟨(some 35), none, (.fld 0 (.t 10))⟩, ⟨(some 36), none, (.ld false 1 (.t 35))⟩, ⟨(some 37), none, (.fld 1 (.t 10))⟩, ⟨(some 38), none, (.ld false 1 (.t 37))⟩, ⟨(some 39), none, (.call false 28 [(.t 34), (.t 36), (.t 38)])⟩, ⟨(some 33), none, (.mv (.t 39))⟩, ⟨(some 40), none, (.ext (.t 33) 0)⟩, ⟨(some 41), none, (.ext (.t 33) 1)⟩, ⟨(some 13), none, (.mv (.t 40))⟩, ⟨(some 14), none, (.mv (.t 41))⟩]) (.seq (.ops [⟨(some 42), none, (.mv (.t 14))⟩]) (.cond (.t 42) (.ops [⟨(some 44), none, (.mv (.t 0))⟩, ⟨(some 45), none, (.mv (.t 13))⟩, ⟨(some 46), none, (.call false 29 [(.t 44), (.t 45)])⟩, ⟨(some 43), none, (.mv (.t 46))⟩, ⟨(some 47), none, (.ext (.t 43) 0)⟩, ⟨(some 48), none, (.ext (.t 43) 1)⟩, ⟨none, none, (.sto 29 (.t 11) (.t 47))⟩, ⟨(some 12), none, (.mv (.t 48))⟩]) .skip))) (.seq (.ops [⟨(some 49), none, (.mv (.t 12))⟩]) (.cond (.t 49) (.ops [⟨(some 50), none, (.mv (.t 8))⟩, ⟨(some 51), none, (.ld true 29 (.t 11))⟩, ⟨(some 52), none, (.buildSl 46 29 1 [(.int .i64 0), (.str []), (.str []), (.int .i64 0), (.bool false), (.str []), (.int .i64 0), (.int .i64 0), .e0, .e0, (.str []), (.int .i64 0), (.int .i64 0), (.bool false), (.str []), .e0, .e0, .e0, .e0, (.int .i64 0), (.int .i64 0), (.int .i64 0), (.int .i64 0), (.int .i64 0), (.int .i64 0), (.int .i64 0), (.int .i64 0), (.str []), (.int .i64 0)] [(0, (.t 51))])⟩, ⟨(some 53), none, (.app 46 29 376 (.t 50) (.t 52))⟩, ⟨(some 8), none, (.mv (.t 53))⟩]) .skip)))))) (.ops [⟨(some 54), none, (.bin .add (.t 23) (.c (.int .i64 1)))⟩, ⟨(some 23), none, (.mv (.t 54))⟩]))))))) (.seq (.ops [⟨(some 55), none, (.mv (.t 8))⟩, ⟨(some 6), none, (.mv (.t 55))⟩]) .ret)))))
theorem tr12 : Tryz.f12.body.bind (trCode Tryz.prog) = some (strip ac12) := by kernel_rfl
theorem spec12 (es : List Ev) (st : List Ent) (e : Ev) (hb : st.length ≤ 1000) (ha : e.auth.length ≤ 1000) : Spec Tryz.prog 12 [.fz (.sl 29 (es.map encEv)), .fz (.sl 3 (st.map encEnt)), .fz (.agg (encEv e))] (.fz (.sl 29 ((baseG getS es st e).map encEv))) := by
  refine spec_at (n := 53) (ars := [(.t 6)]) (ac := ac12) Tryz.func12 (by kernel_rfl) (by kernel_rfl) tr12 (by kernel_rfl) ?_
  unfold ac12
  have hk5 := len_keysE e
  iterate 12 (all_goals (try (first
    | ((with_reducible refine of_kSpec ?_)
       refine call_sub (ds' := [.agg (encEv e)]) (spec26 e) rfl ?_ ?_
       · simp -implicitDefEqProofs only [SD, SF, SL, e_nf, reduceCtorEq, implies_true, ↓reduceIte, Nat.reduceEqDiff, Nat.reduceAdd, Nat.reduceMul, Nat.reduceSub, Nat.reduceLeDiff, Nat.reduceLT, Int.reduceLT, Int.reduceLE, Int.reduceEq, Int.reduceToNat, Int.reduceAdd, Int.reduceSub, Int.reduceNeg, Int.reduceBEq, Int.reduceBNe, Nat.reduceBEq, Int.cast_ofNat_Int, decide_true, decide_false, ne_eq, eq_self_iff_true, beq_eq_false_iff_ne, bne_iff_ne, List.replicate, encEv, *]
         done)
    | ((with_reducible refine of_kSpec ?_); refine call_fz (spec25 es e.auth ha) rfl ?_)
    | (with_reducible refine ite_in (fun _ => ?_) (fun _ => ?_))
    | (with_reducible refine ⟨fun _ => ?_, fun _ => ?_⟩)
    | (with_reducible refine And.intro ?_ ?_)
    | (with_reducible intro _)
    | (with_reducible exact is_in _)
    | (simp -implicitDefEqProofs only [SD, SF, SL, e_nf, reduceCtorEq, implies_true, ↓reduceIte, Nat.reduceEqDiff, Nat.reduceAdd, Nat.reduceMul, Nat.reduceSub, Nat.reduceLeDiff, Nat.reduceLT, Int.reduceLT, Int.reduceLE, Int.reduceEq, Int.reduceToNat, Int.reduceAdd, Int.reduceSub, Int.reduceNeg, Int.reduceBEq, Int.reduceBNe, Nat.reduceBEq, Int.cast_ofNat_Int, decide_true, decide_false, ne_eq, eq_self_iff_true, beq_eq_false_iff_ne, bne_iff_ne, List.replicate, encEv, *]))))
  all_goals try omega
  refine loop_r (X := List Ent × List Ent × (DV × List (Nat × Blk))) (fun n x => (keysE e) = x.1 ++ x.2.1 ∧ n = x.2.1.length ∧ ((x.1.filterMap (pickG getS es st (ofL es e.auth)) = [] ∧ x.2.2 = (DV.ow 19, [(19, Blk.vec 46 29 ([]))])) ∨ x.2.2 = (DV.ow 53, [(53, Blk.vec 46 29 ((x.1.filterMap (pickG getS es st (ofL es e.auth))).map encEv))]))) (fun x => [(23, .int .i64 x.1.length), (8, x.2.2.1)]) (fun x => x.2.2.2) [10, 11, 12, 13, 14, 24, 25, 26, 27, 28, 29, 30, 31, 32, 33, 34, 35, 36, 37, 38, 39, 40, 41, 42, 43, 44, 45, 46, 47, 48, 49, 50, 51, 52, 53, 54] [10, 11, 52, 53, 19] [10, 11, 52] ((keysE e)).length ([], (keysE e), (DV.ow 19, [(19, Blk.vec 46 29 ([]))])) ⟨rfl, rfl, by exact .inl ⟨rfl, rfl⟩⟩ ?_ ?_
  · simp -implicitDefEqProofs only [SD, SF, SL, e_nf, reduceCtorEq, implies_true, ↓reduceIte, Nat.reduceEqDiff, Nat.reduceAdd, Nat.reduceMul, Nat.reduceSub, Nat.reduceLeDiff, Nat.reduceLT, Int.reduceLT, Int.reduceLE, Int.reduceEq, Int.reduceToNat, Int.reduceAdd, Int.reduceSub, Int.reduceNeg, Int.reduceBEq, Int.reduceBNe, Nat.reduceBEq, Int.cast_ofNat_Int, decide_true, decide_false, ne_eq, eq_self_iff_true, beq_eq_false_iff_ne, bne_iff_ne, List.replicate, encEv, encEnt, zE, encN, evOf_n, evOf_s, isS_n, isS_s] <;> simp
  · rintro n ⟨pre, rest, a⟩ ⟨he, rfl, hI⟩
    dsimp only at he hI
    cases rest with
    | nil =>
      obtain rfl : (keysE e) = pre := by simpa using he
      clear he
      have hlt : ¬ ((((keysE e)).length : Int) < (((keysE e)).length : Int)) := Int.lt_irrefl _
      rcases hI with ⟨hl0, rfl⟩ | rfl
      all_goals try replace hl0 := Hd.mk hl0
      iterate 80 (all_goals (try (first
        | (with_reducible refine ite_in (fun _ => ?_) (fun _ => ?_))
        | (with_reducible refine ⟨fun _ => ?_, fun _ => ?_⟩)
        | (with_reducible refine And.intro ?_ ?_)
        | (with_reducible intro _)
        | (with_reducible exact is_in _)
        | (simp -implicitDefEqProofs only [SD, SF, SL, e_nf, reduceCtorEq, implies_true, ↓reduceIte, Nat.reduceEqDiff, Nat.reduceAdd, Nat.reduceMul, Nat.reduceSub, Nat.reduceLeDiff, Nat.reduceLT, Int.reduceLT, Int.reduceLE, Int.reduceEq, Int.reduceToNat, Int.reduceAdd, Int.reduceSub, Int.reduceNeg, Int.reduceBEq, Int.reduceBNe, Nat.reduceBEq, Int.cast_ofNat_Int, decide_true, decide_false, ne_eq, eq_self_iff_true, beq_eq_false_iff_ne, bne_iff_ne, List.replicate, encEv, encEnt, zE, encN, evOf_n, evOf_s, isS_n, isS_s, *]))))
      all_goals (first | decide | (simp only [maxLen, List.length_append, List.length_map, List.length_cons, List.length_nil] <;> omega) | omega | (rw [show baseG getS es st e = (keysE e).filterMap (pickG getS es st (ofL es e.auth)) from rfl, hl0.out]; first | exact .inl rfl | rfl | simp) | exact .inl rfl | (simp_all; done) | trace_state)

    | cons x rest =>
      have hlt := cut_lt he
      have hx := cutD encEnt he
      simp only [encEnt] at hx
      have hw := wrap_len (n := pre.length) (m := ((keysE e)).length) (cut_lt' he) (by simp only [maxLen]; omega)
      replace he := Hd.mk he
      have hz1 := cut_lt' he.out
      have hlo : (pre.filterMap (pickG getS es st (ofL es e.auth))).length ≤ pre.length := List.length_filterMap_le _ _
      have hz2 : (pre.filterMap (pickG getS es st (ofL es e.auth))).length + 1 ≤ maxLen := by simp only [maxLen]; omega
      have hz3 : ((pre.filterMap (pickG getS es st (ofL es e.auth))).length + 1) * 376 ≤ 140737488355328 := by omega
      rcases pick_cases getS es st (ofL es e.auth) x with ⟨gi, hg, hf, hpk⟩ | ⟨gi, v, hg, hf, hpk⟩ | ⟨gi, hg, hf, hpk⟩ | ⟨gi, v, hg, hf, hpk⟩
      all_goals first | have hsn := pf_none (l := pre) hpk | have hsn := pf_some (l := pre) hpk
      all_goals clear hpk
      all_goals rcases hI with ⟨hp0, rfl⟩ | rfl
      all_goals try replace hp0 := Hd.mk hp0
      all_goals replace hsn := Hd.mk hsn
      all_goals (have hown := spec27 (ofL es e.auth) x; rw [hasKey_q x] at hown)
      iterate 80 (all_goals (try (first
        | (have := hp0; (with_reducible refine back_in rest.length [10, 11, 12, 13, 14, 24, 25, 26, 27, 28, 29, 30, 31, 32, 33, 34, 35, 36, 37, 38, 39, 40, 41, 42, 43, 44, 45, 46, 47, 48, 49, 50, 51, 52, 53, 54] [10, 11, 52] (pre ++ [x], rest, (DV.ow 19, [(19, Blk.vec 46 29 ([]))])) ?_ ⟨?_, ?_, ?_⟩ ?_)
           · simp
           · exact cut_snoc he.out
           · rfl
           · first | (left; refine ⟨?_, rfl⟩; rw [hsn.out]; exact hp0.out) | (right; rw [hsn.out]; done) | (right; rw [hsn.out, List.map_append]; rfl) | (right; rw [hsn.out, hp0.out]; rfl)
           · first | (simp -implicitDefEqProofs only [SD, SF, SL, e_nf, reduceCtorEq, implies_true, ↓reduceIte, Nat.reduceEqDiff, Nat.reduceAdd, Nat.reduceMul, Nat.reduceSub, Nat.reduceLeDiff, Nat.reduceLT, Int.reduceLT, Int.reduceLE, Int.reduceEq, Int.reduceToNat, Int.reduceAdd, Int.reduceSub, Int.reduceNeg, Int.reduceBEq, Int.reduceBNe, Nat.reduceBEq, Int.cast_ofNat_Int, decide_true, decide_false, ne_eq, eq_self_iff_true, beq_eq_false_iff_ne, bne_iff_ne, List.replicate, encEv, encEnt, zE, encN, evOf_n, evOf_s, isS_n, isS_s] <;> simp <;> done) | (simp -implicitDefEqProofs only [SD, SF, SL, e_nf, reduceCtorEq, implies_true, ↓reduceIte, Nat.reduceEqDiff, Nat.reduceAdd, Nat.reduceMul, Nat.reduceSub, Nat.reduceLeDiff, Nat.reduceLT, Int.reduceLT, Int.reduceLE, Int.reduceEq, Int.reduceToNat, Int.reduceAdd, Int.reduceSub, Int.reduceNeg, Int.reduceBEq, Int.reduceBNe, Nat.reduceBEq, Int.cast_ofNat_Int, decide_true, decide_false, ne_eq, eq_self_iff_true, beq_eq_false_iff_ne, bne_iff_ne, List.replicate, encEv, encEnt, zE, encN, evOf_n, evOf_s, isS_n, isS_s, *] <;> simp_all <;> done))
        | ((with_reducible refine back_in rest.length [10, 11, 12, 13, 14, 24, 25, 26, 27, 28, 29, 30, 31, 32, 33, 34, 35, 36, 37, 38, 39, 40, 41, 42, 43, 44, 45, 46, 47, 48, 49, 50, 51, 52, 53, 54] [10, 11, 52] (pre ++ [x], rest, (DV.ow 53, [(53, Blk.vec 46 29 ((pre.filterMap (pickG getS es st (ofL es e.auth))).map encEv))])) ?_ ⟨?_, ?_, ?_⟩ ?_)
           · simp
           · exact cut_snoc he.out
           · rfl
           · first | (left; refine ⟨?_, rfl⟩; rw [hsn.out]; exact hp0.out) | (right; rw [hsn.out]; done) | (right; rw [hsn.out, List.map_append]; rfl) | (right; rw [hsn.out, hp0.out]; rfl)
           · first | (simp -implicitDefEqProofs only [SD, SF, SL, e_nf, reduceCtorEq, implies_true, ↓reduceIte, Nat.reduceEqDiff, Nat.reduceAdd, Nat.reduceMul, Nat.reduceSub, Nat.reduceLeDiff, Nat.reduceLT, Int.reduceLT, Int.reduceLE, Int.reduceEq, Int.reduceToNat, Int.reduceAdd, Int.reduceSub, Int.reduceNeg, Int.reduceBEq, Int.reduceBNe, Nat.reduceBEq, Int.cast_ofNat_Int, decide_true, decide_false, ne_eq, eq_self_iff_true, beq_eq_false_iff_ne, bne_iff_ne, List.replicate, encEv, encEnt, zE, encN, evOf_n, evOf_s, isS_n, isS_s] <;> simp <;> done) | (simp -implicitDefEqProofs only [SD, SF, SL, e_nf, reduceCtorEq, implies_true, ↓reduceIte, Nat.reduceEqDiff, Nat.reduceAdd, Nat.reduceMul, Nat.reduceSub, Nat.reduceLeDiff, Nat.reduceLT, Int.reduceLT, Int.reduceLE, Int.reduceEq, Int.reduceToNat, Int.reduceAdd, Int.reduceSub, Int.reduceNeg, Int.reduceBEq, Int.reduceBNe, Nat.reduceBEq, Int.cast_ofNat_Int, decide_true, decide_false, ne_eq, eq_self_iff_true, beq_eq_false_iff_ne, bne_iff_ne, List.replicate, encEv, encEnt, zE, encN, evOf_n, evOf_s, isS_n, isS_s, *] <;> simp_all <;> done))
        | ((with_reducible refine back_in rest.length [10, 11, 12, 13, 14, 24, 25, 26, 27, 28, 29, 30, 31, 32, 33, 34, 35, 36, 37, 38, 39, 40, 41, 42, 43, 44, 45, 46, 47, 48, 49, 50, 51, 52, 53, 54] [10, 11, 52] (pre ++ [x], rest, (DV.ow 53, [(53, Blk.vec 46 29 ((pre.filterMap (pickG getS es st (ofL es e.auth))).map encEv ++ [encEv v]))])) ?_ ⟨?_, ?_, ?_⟩ ?_)
           · simp
           · exact cut_snoc he.out
           · rfl
           · first | (left; refine ⟨?_, rfl⟩; rw [hsn.out]; exact hp0.out) | (right; rw [hsn.out]; done) | (right; rw [hsn.out, List.map_append]; rfl) | (right; rw [hsn.out, hp0.out]; rfl)
           · first | (simp -implicitDefEqProofs only [SD, SF, SL, e_nf, reduceCtorEq, implies_true, ↓reduceIte, Nat.reduceEqDiff, Nat.reduceAdd, Nat.reduceMul, Nat.reduceSub, Nat.reduceLeDiff, Nat.reduceLT, Int.reduceLT, Int.reduceLE, Int.reduceEq, Int.reduceToNat, Int.reduceAdd, Int.reduceSub, Int.reduceNeg, Int.reduceBEq, Int.reduceBNe, Nat.reduceBEq, Int.cast_ofNat_Int, decide_true, decide_false, ne_eq, eq_self_iff_true, beq_eq_false_iff_ne, bne_iff_ne, List.replicate, encEv, encEnt, zE, encN, evOf_n, evOf_s, isS_n, isS_s] <;> simp <;> done) | (simp -implicitDefEqProofs only [SD, SF, SL, e_nf, reduceCtorEq, implies_true, ↓reduceIte, Nat.reduceEqDiff, Nat.reduceAdd, Nat.reduceMul, Nat.reduceSub, Nat.reduceLeDiff, Nat.reduceLT, Int.reduceLT, Int.reduceLE, Int.reduceEq, Int.reduceToNat, Int.reduceAdd, Int.reduceSub, Int.reduceNeg, Int.reduceBEq, Int.reduceBNe, Nat.reduceBEq, Int.cast_ofNat_Int, decide_true, decide_false, ne_eq, eq_self_iff_true, beq_eq_false_iff_ne, bne_iff_ne, List.replicate, encEv, encEnt, zE, encN, evOf_n, evOf_s, isS_n, isS_s, *] <;> simp_all <;> done))
        | (have := hp0; (with_reducible refine back_in rest.length [10, 11, 12, 13, 14, 24, 25, 26, 27, 28, 29, 30, 31, 32, 33, 34, 35, 36, 37, 38, 39, 40, 41, 42, 43, 44, 45, 46, 47, 48, 49, 50, 51, 52, 53, 54] [10, 11, 52] (pre ++ [x], rest, (DV.ow 53, [(53, Blk.vec 46 29 ([encEv v]))])) ?_ ⟨?_, ?_, ?_⟩ ?_)
           · simp
           · exact cut_snoc he.out
           · rfl
           · first | (left; refine ⟨?_, rfl⟩; rw [hsn.out]; exact hp0.out) | (right; rw [hsn.out]; done) | (right; rw [hsn.out, List.map_append]; rfl) | (right; rw [hsn.out, hp0.out]; rfl)
           · first | (simp -implicitDefEqProofs only [SD, SF, SL, e_nf, reduceCtorEq, implies_true, ↓reduceIte, Nat.reduceEqDiff, Nat.reduceAdd, Nat.reduceMul, Nat.reduceSub, Nat.reduceLeDiff, Nat.reduceLT, Int.reduceLT, Int.reduceLE, Int.reduceEq, Int.reduceToNat, Int.reduceAdd, Int.reduceSub, Int.reduceNeg, Int.reduceBEq, Int.reduceBNe, Nat.reduceBEq, Int.cast_ofNat_Int, decide_true, decide_false, ne_eq, eq_self_iff_true, beq_eq_false_iff_ne, bne_iff_ne, List.replicate, encEv, encEnt, zE, encN, evOf_n, evOf_s, isS_n, isS_s] <;> simp <;> done) | (simp -implicitDefEqProofs only [SD, SF, SL, e_nf, reduceCtorEq, implies_true, ↓reduceIte, Nat.reduceEqDiff, Nat.reduceAdd, Nat.reduceMul, Nat.reduceSub, Nat.reduceLeDiff, Nat.reduceLT, Int.reduceLT, Int.reduceLE, Int.reduceEq, Int.reduceToNat, Int.reduceAdd, Int.reduceSub, Int.reduceNeg, Int.reduceBEq, Int.reduceBNe, Nat.reduceBEq, Int.cast_ofNat_Int, decide_true, decide_false, ne_eq, eq_self_iff_true, beq_eq_false_iff_ne, bne_iff_ne, List.replicate, encEv, encEnt, zE, encN, evOf_n, evOf_s, isS_n, isS_s, *] <;> simp_all <;> done))
        | ((with_reducible refine of_kSpec ?_)
           refine call_sub (ds' := [.sl 29 ((ofL es e.auth).map encEv), .agg (encEnt x)]) (hown) rfl ?_ ?_
           · simp -implicitDefEqProofs only [SD, SF, SL, e_nf, reduceCtorEq, implies_true, ↓reduceIte, Nat.reduceEqDiff, Nat.reduceAdd, Nat.reduceMul, Nat.reduceSub, Nat.reduceLeDiff, Nat.reduceLT, Int.reduceLT, Int.reduceLE, Int.reduceEq, Int.reduceToNat, Int.reduceAdd, Int.reduceSub, Int.reduceNeg, Int.reduceBEq, Int.reduceBNe, Nat.reduceBEq, Int.cast_ofNat_Int, decide_true, decide_false, ne_eq, eq_self_iff_true, beq_eq_false_iff_ne, bne_iff_ne, List.replicate, encEnt, *]
             done)
        | ((with_reducible refine of_kSpec ?_); refine call_fz (spec28 st x.kind x.key hb) rfl ?_)
        | ((with_reducible refine of_kSpec ?_); refine call_fz (spec29 es _) rfl ?_)
        | (with_reducible refine ite_in (fun _ => ?_) (fun _ => ?_))
        | (with_reducible refine ⟨fun _ => ?_, fun _ => ?_⟩)
        | (with_reducible refine And.intro ?_ ?_)
        | (with_reducible intro _)
        | (with_reducible exact is_in _)
        | (simp -implicitDefEqProofs only [SD, SF, SL, e_nf, reduceCtorEq, implies_true, ↓reduceIte, Nat.reduceEqDiff, Nat.reduceAdd, Nat.reduceMul, Nat.reduceSub, Nat.reduceLeDiff, Nat.reduceLT, Int.reduceLT, Int.reduceLE, Int.reduceEq, Int.reduceToNat, Int.reduceAdd, Int.reduceSub, Int.reduceNeg, Int.reduceBEq, Int.reduceBNe, Nat.reduceBEq, Int.cast_ofNat_Int, decide_true, decide_false, ne_eq, eq_self_iff_true, beq_eq_false_iff_ne, bne_iff_ne, List.replicate, encEv, encEnt, zE, encN, evOf_n, evOf_s, isS_n, isS_s, *]))))
      all_goals (first | decide | (simp only [maxLen, List.length_append, List.length_map, List.length_cons, List.length_nil] <;> omega) | omega | (rw [show baseG getS es st e = (keysE e).filterMap (pickG getS es st (ofL es e.auth)) from rfl, hl0.out]; first | exact .inl rfl | rfl | simp) | exact .inl rfl | (simp_all; done) | trace_state)

end Go.Proofs.YtcolebkklojccaaGreat.E
