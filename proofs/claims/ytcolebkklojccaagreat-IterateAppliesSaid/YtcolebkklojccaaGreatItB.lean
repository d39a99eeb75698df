/-
  ItB: walks of functions of the program at data level.
-/
import Derived.Test.YtcolebkklojccaaGreatProg
import Derived.Test.YtcolebkklojccaaGreatEngZ
import Derived.Test.YtcolebkklojccaaGreatItA
import Derived.Test.YtcolebkklojccaaGreatAuA
import Derived.KernelRfl
set_option linter.unusedVariables false
set_option linter.unusedSimpArgs false
namespace Go.Proofs.YtcolebkklojccaaGreat.E
open Go
set_option maxHeartbeats 4000000
set_option maxRecDepth 100000
set_option linter.unusedSimpArgs false
set_option linter.unusedVariables false
attribute [local congr] c_wp c_ops c_op c_opS c_run c_runS c_dt c_seq c_blk c_loop c_S c_put c_bind c_mv c_pick c_nt c_ng c_bin c_binI c_binS c_beq c_B c_eqa c_hd c_cells c_blkK c_box c_vec c_mp c_nck c_mks c_appn c_mkm c_mput c_mlk c_mrm c_take c_ld c_ldF c_cellsK c_st c_fld c_fldv c_ix c_ixp c_ixv c_ixs c_sub c_subs c_len c_lens c_src c_dst c_ow c_app c_ext c_mm c_conv c_str c_isn c_fill c_rows c_boxo c_frz c_frzO c_frzA c_frzV c_spec c_specO c_opsP c_opP c_runP c_specP c_Z c_qretP c_fz c_fn c_gv c_cond c_res1 c_resL c_ret c_qret c_ite c_unr c_nx c_bk c_cut c_is
attribute [local irreducible] dwp

def hasId (i : Int) (e : Ev) : Bool := decide (e.ident = i)
def hasKey (q : Ent) (e : Ev) : Bool := decide (e.kind = q.kind) && decide (e.key = q.key)
def idxP (p : Ev → Bool) : List Ev → Nat → Int
  | [], _ => -1
  | e :: l, i => if p e = true then i else idxP p l (i + 1)
theorem idxP_cases (p : Ev → Bool) : ∀ (l : List Ev) (i : Nat), (idxP p l i = -1 ∧ l.find? p = none) ∨ ∃ pre e rest, l = pre ++ e :: rest ∧ idxP p l i = ((i + pre.length : Nat) : Int) ∧ l.find? p = some e
  | [], i => .inl ⟨rfl, rfl⟩
  | e :: l, i => by
    unfold idxP
    by_cases h : p e = true
    · rw [if_pos h, List.find?_cons, h]
      exact .inr ⟨[], e, l, rfl, by simp, rfl⟩
    · have h' : p e = false := by simpa using h
      rw [if_neg h, List.find?_cons, h']
      rcases idxP_cases p l (i + 1) with ⟨h1, h2⟩ | ⟨pre, x, rest, h1, h2, h3⟩
      · exact .inl ⟨h1, h2⟩
      · exact .inr ⟨e :: pre, x, rest, by rw [h1]; rfl, by rw [h2]; simp; omega, h3⟩
def zE : Ev := ⟨0, [], [], 0, false, [], 0, 0, [], [], [], 0, 0, false, [], [], [], ⟨[], [], 0, 0, 0, 0, 0, 0, 0⟩, 0, [], 0⟩
def evOf (o : Option Ev) : Ev := o.getD zE
theorem evOf_n : evOf none = zE := rfl
theorem evOf_s (e : Ev) : evOf (some e) = e := rfl
theorem isS_n : (none : Option Ev).isSome = false := rfl
theorem isS_s (e : Ev) : (some e).isSome = true := rfl
def ac64 : AC := (.seq (.ops [⟨(some 2), none, (.box (.t 0))⟩, ⟨(some 3), none, (.mv (.c (.bool false)))⟩]) (.seq (.ops [⟨(some 4), none, (.fld 0 (.t 2))⟩, ⟨(some 5), none, (.ld false 1 (.t 4))⟩, ⟨(some 6), none, (.ld false 1 (.t 1))⟩, ⟨(some 7), none, (.bin .eql (.t 5) (.t 6))⟩, ⟨(some 3), none, (.mv (.t 7))⟩]) .ret))
theorem tr64 : Tryz.f64.body.bind (trCode Tryz.prog) = some (strip ac64) := by kernel_rfl
theorem spec64 (e : Ev) (i : Int) : Spec Tryz.prog 64 [.fz (.agg (encEv e)), .fz (.pf [.int .i64 i])] (.fz (.bool (hasId i e))) := by
  refine spec_at (n := 6) (ars := [(.t 3)]) (ac := ac64) Tryz.func64 (by kernel_rfl) (by kernel_rfl) tr64 (by kernel_rfl) ?_
  unfold ac64
  iterate 30 (all_goals (try (first
    | (with_reducible refine ite_in (fun _ => ?_) (fun _ => ?_))
    | (with_reducible refine ⟨fun _ => ?_, fun _ => ?_⟩)
    | (with_reducible refine And.intro ?_ ?_)
    | (with_reducible intro _)
    | (with_reducible exact is_in _)
    | (simp -implicitDefEqProofs only [SD, SF, SL, e_nf, reduceCtorEq, implies_true, ↓reduceIte, Nat.reduceEqDiff, Nat.reduceAdd, Nat.reduceMul, Nat.reduceSub, Nat.reduceLeDiff, Nat.reduceLT, Int.reduceLT, Int.reduceLE, Int.reduceEq, Int.reduceToNat, Int.reduceAdd, Int.reduceSub, Int.reduceNeg, Int.reduceBEq, Int.reduceBNe, Nat.reduceBEq, Int.cast_ofNat_Int, decide_true, decide_false, ne_eq, eq_self_iff_true, beq_eq_false_iff_ne, bne_iff_ne, List.replicate, encEv, hasId, *]))))
def ac44 : AC := (.seq (.ops [⟨(some 2), none, (.box (.t 0))⟩, ⟨(some 3), none, (.mv (.c (.bool false)))⟩]) (.seq (.ops [⟨(some 4), none, (.fld 3 (.t 2))⟩, ⟨(some 5), none, (.ld false 1 (.t 4))⟩, ⟨(some 6), none, (.fld 0 (.t 1))⟩, ⟨(some 7), none, (.ld false 1 (.t 6))⟩, ⟨(some 8), none, (.bin .eql (.t 5) (.t 7))⟩, ⟨(some 9), none, (.mv (.t 8))⟩, ⟨(some 10), (some (9, true)), (.fld 5 (.t 2))⟩, ⟨(some 11), (some (9, true)), (.ld false 1 (.t 10))⟩, ⟨(some 12), (some (9, true)), (.fld 1 (.t 1))⟩, ⟨(some 13), (some (9, true)), (.ld false 1 (.t 12))⟩, ⟨(some 14), (some (9, true)), (.bin .eql (.t 11) (.t 13))⟩, ⟨(some 15), none, (.pick (.t 9) (.t 14) (.c (.bool false)))⟩, ⟨(some 3), none, (.mv (.t 15))⟩]) .ret))
theorem tr44 : Tryz.f44.body.bind (trCode Tryz.prog) = some (strip ac44) := by kernel_rfl
theorem spec44 (e : Ev) (q : Ent) : Spec Tryz.prog 44 [.fz (.agg (encEv e)), .fz (.pf (encEnt q))] (.fz (.bool (hasKey q e))) := by
  refine spec_at (n := 14) (ars := [(.t 3)]) (ac := ac44) Tryz.func44 (by kernel_rfl) (by kernel_rfl) tr44 (by kernel_rfl) ?_
  unfold ac44
  iterate 30 (all_goals (try (first
    | (with_reducible refine ite_in (fun _ => ?_) (fun _ => ?_))
    | (with_reducible refine ⟨fun _ => ?_, fun _ => ?_⟩)
    | (with_reducible refine And.intro ?_ ?_)
    | (with_reducible intro _)
    | (with_reducible exact is_in _)
    | (simp -implicitDefEqProofs only [SD, SF, SL, e_nf, reduceCtorEq, implies_true, ↓reduceIte, Nat.reduceEqDiff, Nat.reduceAdd, Nat.reduceMul, Nat.reduceSub, Nat.reduceLeDiff, Nat.reduceLT, Int.reduceLT, Int.reduceLE, Int.reduceEq, Int.reduceToNat, Int.reduceAdd, Int.reduceSub, Int.reduceNeg, Int.reduceBEq, Int.reduceBNe, Nat.reduceBEq, Int.cast_ofNat_Int, decide_true, decide_false, ne_eq, eq_self_iff_true, beq_eq_false_iff_ne, bne_iff_ne, List.replicate, encEv, encEnt, hasKey, *]))))
  all_goals (first | (simp_all; done) | grind)
theorem specI43 (es : List Ev) (i : Int) : Spec Tryz.prog 43 [.fz (.sl 29 (es.map encEv)), .fz (.fn 64 [.pf [.int .i64 i]])] (.fz (.int .i64 (idxP (hasId i) es 0))) := by
  refine spec_at (n := 17) (ars := [(.t 4)]) (ac := ac43) Tryz.func43 (by kernel_rfl) (by kernel_rfl) tr43 (by kernel_rfl) ?_
  unfold ac43
  simp -implicitDefEqProofs only [SD, SF, SL, e_nf, reduceCtorEq, implies_true, ↓reduceIte, Nat.reduceEqDiff, Nat.reduceAdd, Nat.reduceMul, Nat.reduceSub, Nat.reduceLeDiff, Nat.reduceLT, Int.reduceLT, Int.reduceLE, Int.reduceEq, Int.reduceToNat, Int.reduceAdd, Int.reduceSub, Int.reduceNeg, Int.reduceBEq, Int.reduceBNe, Nat.reduceBEq, Int.cast_ofNat_Int, decide_true, decide_false, ne_eq, eq_self_iff_true, beq_eq_false_iff_ne, bne_iff_ne, List.replicate]
  intro hl
  refine loop_q (X := List Ev × List Ev × Unit) (fun n x => es = x.1 ++ x.2.1 ∧ n = x.2.1.length ∧ (idxP (hasId i) es 0 = idxP (hasId i) x.2.1 x.1.length)) (fun x => [(8, .int .i64 x.1.length)]) (fun _ => []) [4, 5, 9, 10, 11, 12, 13, 14, 15, 16, 17, 18] []  (es).length ([], es, ()) ⟨rfl, rfl, by first | rfl | assumption | (simp_all [idxP]; done) | grind [idxP]⟩ ?_ ?_
  · simp -implicitDefEqProofs only [SD, SF, SL, e_nf, reduceCtorEq, implies_true, ↓reduceIte, Nat.reduceEqDiff, Nat.reduceAdd, Nat.reduceMul, Nat.reduceSub, Nat.reduceLeDiff, Nat.reduceLT, Int.reduceLT, Int.reduceLE, Int.reduceEq, Int.reduceToNat, Int.reduceAdd, Int.reduceSub, Int.reduceNeg, Int.reduceBEq, Int.reduceBNe, Nat.reduceBEq, Int.cast_ofNat_Int, decide_true, decide_false, ne_eq, eq_self_iff_true, beq_eq_false_iff_ne, bne_iff_ne, List.replicate, idxP] <;> simp
  · rintro n ⟨pre, rest, a⟩ ⟨he, rfl, hI⟩
    dsimp only at he hI
    cases rest with
    | nil =>
      obtain rfl : es = pre := by simpa using he
      clear he
      have hlt : ¬ (((es).length : Int) < ((es).length : Int)) := Int.lt_irrefl _
      iterate 30 (all_goals (try (first
        | ((with_reducible refine of_kSpec ?_); refine call_fz (spec64 x i) rfl ?_)
        | (with_reducible refine ite_in (fun _ => ?_) (fun _ => ?_))
        | (with_reducible refine ⟨fun _ => ?_, fun _ => ?_⟩)
        | (with_reducible refine And.intro ?_ ?_)
        | (with_reducible intro _)
        | (with_reducible exact is_in _)
        | (simp -implicitDefEqProofs only [SD, SF, SL, e_nf, reduceCtorEq, implies_true, ↓reduceIte, Nat.reduceEqDiff, Nat.reduceAdd, Nat.reduceMul, Nat.reduceSub, Nat.reduceLeDiff, Nat.reduceLT, Int.reduceLT, Int.reduceLE, Int.reduceEq, Int.reduceToNat, Int.reduceAdd, Int.reduceSub, Int.reduceNeg, Int.reduceBEq, Int.reduceBNe, Nat.reduceBEq, Int.cast_ofNat_Int, decide_true, decide_false, ne_eq, eq_self_iff_true, beq_eq_false_iff_ne, bne_iff_ne, List.replicate, idxP, *]))))

    | cons x rest =>
      have hlt := cut_lt he
      have hx := cutD encEv he
      simp only [encEv] at hx
      have hw := wrap_len (n := pre.length) (m := (es).length) (cut_lt' he) (by simpa using hl)
      replace he := Hd.mk he
      have hx2 : (List.map encEv es).getD pre.length [] = encEv x := cutD encEv he.out
      iterate 30 (all_goals (try (first
        | ((with_reducible refine back_in rest.length [4, 5, 9, 10, 11, 12, 13, 14, 15, 16, 17, 18] [] (pre ++ [x], rest, a) ?_ ⟨?_, ?_, ?_⟩ ?_)
           · simp
           · exact cut_snoc he.out
           · rfl
           · first | rfl | assumption | (simp_all [idxP]; done) | grind [idxP]
           · first | (simp -implicitDefEqProofs only [SD, SF, SL, e_nf, reduceCtorEq, implies_true, ↓reduceIte, Nat.reduceEqDiff, Nat.reduceAdd, Nat.reduceMul, Nat.reduceSub, Nat.reduceLeDiff, Nat.reduceLT, Int.reduceLT, Int.reduceLE, Int.reduceEq, Int.reduceToNat, Int.reduceAdd, Int.reduceSub, Int.reduceNeg, Int.reduceBEq, Int.reduceBNe, Nat.reduceBEq, Int.cast_ofNat_Int, decide_true, decide_false, ne_eq, eq_self_iff_true, beq_eq_false_iff_ne, bne_iff_ne, List.replicate, idxP] <;> simp <;> done) | (simp -implicitDefEqProofs only [SD, SF, SL, e_nf, reduceCtorEq, implies_true, ↓reduceIte, Nat.reduceEqDiff, Nat.reduceAdd, Nat.reduceMul, Nat.reduceSub, Nat.reduceLeDiff, Nat.reduceLT, Int.reduceLT, Int.reduceLE, Int.reduceEq, Int.reduceToNat, Int.reduceAdd, Int.reduceSub, Int.reduceNeg, Int.reduceBEq, Int.reduceBNe, Nat.reduceBEq, Int.cast_ofNat_Int, decide_true, decide_false, ne_eq, eq_self_iff_true, beq_eq_false_iff_ne, bne_iff_ne, List.replicate, idxP, *] <;> simp_all <;> done))
        | ((with_reducible refine of_kSpec ?_); refine call_fz (spec64 x i) rfl ?_)
        | (with_reducible refine ite_in (fun _ => ?_) (fun _ => ?_))
        | (with_reducible refine ⟨fun _ => ?_, fun _ => ?_⟩)
        | (with_reducible refine And.intro ?_ ?_)
        | (with_reducible intro _)
        | (with_reducible exact is_in _)
        | (simp -implicitDefEqProofs only [SD, SF, SL, e_nf, reduceCtorEq, implies_true, ↓reduceIte, Nat.reduceEqDiff, Nat.reduceAdd, Nat.reduceMul, Nat.reduceSub, Nat.reduceLeDiff, Nat.reduceLT, Int.reduceLT, Int.reduceLE, Int.reduceEq, Int.reduceToNat, Int.reduceAdd, Int.reduceSub, Int.reduceNeg, Int.reduceBEq, Int.reduceBNe, Nat.reduceBEq, Int.cast_ofNat_Int, decide_true, decide_false, ne_eq, eq_self_iff_true, beq_eq_false_iff_ne, bne_iff_ne, List.replicate, idxP, *]))))
theorem specK43 (es : List Ev) (q : Ent) : Spec Tryz.prog 43 [.fz (.sl 29 (es.map encEv)), .fz (.fn 44 [.pf (encEnt q)])] (.fz (.int .i64 (idxP (hasKey q) es 0))) := by
  refine spec_at (n := 17) (ars := [(.t 4)]) (ac := ac43) Tryz.func43 (by kernel_rfl) (by kernel_rfl) tr43 (by kernel_rfl) ?_
  unfold ac43
  simp -implicitDefEqProofs only [SD, SF, SL, e_nf, reduceCtorEq, implies_true, ↓reduceIte, Nat.reduceEqDiff, Nat.reduceAdd, Nat.reduceMul, Nat.reduceSub, Nat.reduceLeDiff, Nat.reduceLT, Int.reduceLT, Int.reduceLE, Int.reduceEq, Int.reduceToNat, Int.reduceAdd, Int.reduceSub, Int.reduceNeg, Int.reduceBEq, Int.reduceBNe, Nat.reduceBEq, Int.cast_ofNat_Int, decide_true, decide_false, ne_eq, eq_self_iff_true, beq_eq_false_iff_ne, bne_iff_ne, List.replicate]
  intro hl
  refine loop_q (X := List Ev × List Ev × Unit) (fun n x => es = x.1 ++ x.2.1 ∧ n = x.2.1.length ∧ (idxP (hasKey q) es 0 = idxP (hasKey q) x.2.1 x.1.length)) (fun x => [(8, .int .i64 x.1.length)]) (fun _ => []) [4, 5, 9, 10, 11, 12, 13, 14, 15, 16, 17, 18] []  (es).length ([], es, ()) ⟨rfl, rfl, by first | rfl | assumption | (simp_all [idxP]; done) | grind [idxP]⟩ ?_ ?_
  · simp -implicitDefEqProofs only [SD, SF, SL, e_nf, reduceCtorEq, implies_true, ↓reduceIte, Nat.reduceEqDiff, Nat.reduceAdd, Nat.reduceMul, Nat.reduceSub, Nat.reduceLeDiff, Nat.reduceLT, Int.reduceLT, Int.reduceLE, Int.reduceEq, Int.reduceToNat, Int.reduceAdd, Int.reduceSub, Int.reduceNeg, Int.reduceBEq, Int.reduceBNe, Nat.reduceBEq, Int.cast_ofNat_Int, decide_true, decide_false, ne_eq, eq_self_iff_true, beq_eq_false_iff_ne, bne_iff_ne, List.replicate, idxP] <;> simp
  · rintro n ⟨pre, rest, a⟩ ⟨he, rfl, hI⟩
    dsimp only at he hI
    cases rest with
    | nil =>
      obtain rfl : es = pre := by simpa using he
      clear he
      have hlt : ¬ (((es).length : Int) < ((es).length : Int)) := Int.lt_irrefl _
      iterate 30 (all_goals (try (first
        | ((with_reducible refine of_kSpec ?_); refine call_fz (spec44 x q) rfl ?_)
        | (with_reducible refine ite_in (fun _ => ?_) (fun _ => ?_))
        | (with_reducible refine ⟨fun _ => ?_, fun _ => ?_⟩)
        | (with_reducible refine And.intro ?_ ?_)
        | (with_reducible intro _)
        | (with_reducible exact is_in _)
        | (simp -implicitDefEqProofs only [SD, SF, SL, e_nf, reduceCtorEq, implies_true, ↓reduceIte, Nat.reduceEqDiff, Nat.reduceAdd, Nat.reduceMul, Nat.reduceSub, Nat.reduceLeDiff, Nat.reduceLT, Int.reduceLT, Int.reduceLE, Int.reduceEq, Int.reduceToNat, Int.reduceAdd, Int.reduceSub, Int.reduceNeg, Int.reduceBEq, Int.reduceBNe, Nat.reduceBEq, Int.cast_ofNat_Int, decide_true, decide_false, ne_eq, eq_self_iff_true, beq_eq_false_iff_ne, bne_iff_ne, List.replicate, idxP, *]))))

    | cons x rest =>
      have hlt := cut_lt he
      have hx := cutD encEv he
      simp only [encEv] at hx
      have hw := wrap_len (n := pre.length) (m := (es).length) (cut_lt' he) (by simpa using hl)
      replace he := Hd.mk he
      have hx2 : (List.map encEv es).getD pre.length [] = encEv x := cutD encEv he.out
      iterate 30 (all_goals (try (first
        | ((with_reducible refine back_in rest.length [4, 5, 9, 10, 11, 12, 13, 14, 15, 16, 17, 18] [] (pre ++ [x], rest, a) ?_ ⟨?_, ?_, ?_⟩ ?_)
           · simp
           · exact cut_snoc he.out
           · rfl
           · first | rfl | assumption | (simp_all [idxP]; done) | grind [idxP]
           · first | (simp -implicitDefEqProofs only [SD, SF, SL, e_nf, reduceCtorEq, implies_true, ↓reduceIte, Nat.reduceEqDiff, Nat.reduceAdd, Nat.reduceMul, Nat.reduceSub, Nat.reduceLeDiff, Nat.reduceLT, Int.reduceLT, Int.reduceLE, Int.reduceEq, Int.reduceToNat, Int.reduceAdd, Int.reduceSub, Int.reduceNeg, Int.reduceBEq, Int.reduceBNe, Nat.reduceBEq, Int.cast_ofNat_Int, decide_true, decide_false, ne_eq, eq_self_iff_true, beq_eq_false_iff_ne, bne_iff_ne, List.replicate, idxP] <;> simp <;> done) | (simp -implicitDefEqProofs only [SD, SF, SL, e_nf, reduceCtorEq, implies_true, ↓reduceIte, Nat.reduceEqDiff, Nat.reduceAdd, Nat.reduceMul, Nat.reduceSub, Nat.reduceLeDiff, Nat.reduceLT, Int.reduceLT, Int.reduceLE, Int.reduceEq, Int.reduceToNat, Int.reduceAdd, Int.reduceSub, Int.reduceNeg, Int.reduceBEq, Int.reduceBNe, Nat.reduceBEq, Int.cast_ofNat_Int, decide_true, decide_false, ne_eq, eq_self_iff_true, beq_eq_false_iff_ne, bne_iff_ne, List.replicate, idxP, *] <;> simp_all <;> done))
        | ((with_reducible refine of_kSpec ?_); refine call_fz (spec44 x q) rfl ?_)
        | (with_reducible refine ite_in (fun _ => ?_) (fun _ => ?_))
        | (with_reducible refine ⟨fun _ => ?_, fun _ => ?_⟩)
        | (with_reducible refine And.intro ?_ ?_)
        | (with_reducible intro _)
        | (with_reducible exact is_in _)
        | (simp -implicitDefEqProofs only [SD, SF, SL, e_nf, reduceCtorEq, implies_true, ↓reduceIte, Nat.reduceEqDiff, Nat.reduceAdd, Nat.reduceMul, Nat.reduceSub, Nat.reduceLeDiff, Nat.reduceLT, Int.reduceLT, Int.reduceLE, Int.reduceEq, Int.reduceToNat, Int.reduceAdd, Int.reduceSub, Int.reduceNeg, Int.reduceBEq, Int.reduceBNe, Nat.reduceBEq, Int.cast_ofNat_Int, decide_true, decide_false, ne_eq, eq_self_iff_true, beq_eq_false_iff_ne, bne_iff_ne, List.replicate, idxP, *]))))
def ac46 : AC := (.seq (.ops [⟨(some 3), none, (.box (.t 1))⟩, ⟨(some 4), none, (.mv (.c (.int .i64 0)))⟩]) (.seq (.ops [⟨(some 5), none, (.mv (.t 0))⟩, ⟨(some 6), none, (.mkfn 64 [(.t 3)])⟩, ⟨(some 7), none, (.call false 43 [(.t 5), (.t 6)])⟩, ⟨(some 4), none, (.mv (.t 7))⟩]) .ret))
theorem tr46 : Tryz.f46.body.bind (trCode Tryz.prog) = some (strip ac46) := by kernel_rfl
theorem spec46 (es : List Ev) (i : Int) : Spec Tryz.prog 46 [.fz (.sl 29 (es.map encEv)), .fz (.int .i64 i)] (.fz (.int .i64 (idxP (hasId i) es 0))) := by
  refine spec_at (n := 6) (ars := [(.t 4)]) (ac := ac46) Tryz.func46 (by kernel_rfl) (by kernel_rfl) tr46 (by kernel_rfl) ?_
  unfold ac46
  iterate 30 (all_goals (try (first
    | ((with_reducible refine of_kSpec ?_); refine call_fz (specI43 es i) rfl ?_)
    | (with_reducible refine ite_in (fun _ => ?_) (fun _ => ?_))
    | (with_reducible refine ⟨fun _ => ?_, fun _ => ?_⟩)
    | (with_reducible refine And.intro ?_ ?_)
    | (with_reducible intro _)
    | (with_reducible exact is_in _)
    | (simp -implicitDefEqProofs only [SD, SF, SL, e_nf, reduceCtorEq, implies_true, ↓reduceIte, Nat.reduceEqDiff, Nat.reduceAdd, Nat.reduceMul, Nat.reduceSub, Nat.reduceLeDiff, Nat.reduceLT, Int.reduceLT, Int.reduceLE, Int.reduceEq, Int.reduceToNat, Int.reduceAdd, Int.reduceSub, Int.reduceNeg, Int.reduceBEq, Int.reduceBNe, Nat.reduceBEq, Int.cast_ofNat_Int, decide_true, decide_false, ne_eq, eq_self_iff_true, beq_eq_false_iff_ne, bne_iff_ne, List.replicate, *]))))
def ac29 : AC := (.seq (.ops [⟨(some 4), none, (.alloc [(.int .i64 0), (.str []), (.str []), (.int .i64 0), (.bool false), (.str []), (.int .i64 0), (.int .i64 0), .e0, .e0, (.str []), (.int .i64 0), (.int .i64 0), (.bool false), (.str []), .e0, .e0, .e0, .e0, (.int .i64 0), (.int .i64 0), (.int .i64 0), (.int .i64 0), (.int .i64 0), (.int .i64 0), (.int .i64 0), (.int .i64 0), (.str []), (.int .i64 0)])⟩, ⟨(some 5), none, (.mv (.c (.bool false)))⟩]) (.seq (.ops [⟨(some 7), none, (.mv (.t 0))⟩, ⟨(some 8), none, (.mv (.t 1))⟩, ⟨(some 9), none, (.call false 46 [(.t 7), (.t 8)])⟩, ⟨(some 6), none, (.mv (.t 9))⟩]) (.seq (.seq (.ops [⟨(some 10), none, (.mv (.t 6))⟩, ⟨(some 11), none, (.bin .lss (.t 10) (.c (.int .i64 0)))⟩]) (.cond (.t 11) (.seq (.ops [⟨(some 12), none, (.build [(.int .i64 0), (.str []), (.str []), (.int .i64 0), (.bool false), (.str []), (.int .i64 0), (.int .i64 0), .e0, .e0, (.str []), (.int .i64 0), (.int .i64 0), (.bool false), (.str []), .e0, .e0, .e0, .e0, (.int .i64 0), (.int .i64 0), (.int .i64 0), (.int .i64 0), (.int .i64 0), (.int .i64 0), (.int .i64 0), (.int .i64 0), (.str []), (.int .i64 0)] [])⟩, ⟨none, none, (.sto 29 (.t 4) (.t 12))⟩, ⟨(some 5), none, (.mv (.c (.bool false)))⟩]) .ret) .skip)) (.seq (.ops [⟨(some 13), none, (.mv (.t 0))⟩, ⟨(some 14), none, (.mv (.t 6))⟩, ⟨(some 15), none, (.ix 29 (.t 13) (.t 14))⟩, ⟨(some 16), none, (.ld true 29 (.t 15))⟩, ⟨none, none, (.sto 29 (.t 4) (.t 16))⟩, ⟨(some 5), none, (.mv (.c (.bool true)))⟩]) .ret))))
theorem tr29 : Tryz.f29.body.bind (trCode Tryz.prog) = some (strip ac29) := by kernel_rfl
theorem spec29 (es : List Ev) (i : Int) : Spec Tryz.prog 29 [.fz (.sl 29 (es.map encEv)), .fz (.int .i64 i)] (.fz (.tup [.agg (encEv (evOf (es.find? (hasId i)))), .bool (es.find? (hasId i)).isSome])) := by
  refine spec_at (n := 15) (ars := [(.c true 29 4), (.t 5)]) (ac := ac29) Tryz.func29 (by kernel_rfl) (by kernel_rfl) tr29 (by kernel_rfl) ?_
  unfold ac29
  rcases idxP_cases (hasId i) es 0 with ⟨hi, hf⟩ | ⟨pre, e, rest, he, hi, hf⟩
  · have hz : ¬ ((0 : Int) ≤ -1) := by omega
    rw [hf, evOf_n, isS_n]
    iterate 30 (all_goals (try (first
      | ((with_reducible refine of_kSpec ?_); refine call_fz (spec46 es i) rfl ?_)
      | (with_reducible refine ite_in (fun _ => ?_) (fun _ => ?_))
      | (with_reducible refine ⟨fun _ => ?_, fun _ => ?_⟩)
      | (with_reducible refine And.intro ?_ ?_)
      | (with_reducible intro _)
      | (with_reducible exact is_in _)
      | (simp -implicitDefEqProofs only [SD, SF, SL, e_nf, reduceCtorEq, implies_true, ↓reduceIte, Nat.reduceEqDiff, Nat.reduceAdd, Nat.reduceMul, Nat.reduceSub, Nat.reduceLeDiff, Nat.reduceLT, Int.reduceLT, Int.reduceLE, Int.reduceEq, Int.reduceToNat, Int.reduceAdd, Int.reduceSub, Int.reduceNeg, Int.reduceBEq, Int.reduceBNe, Nat.reduceBEq, Int.cast_ofNat_Int, decide_true, decide_false, ne_eq, eq_self_iff_true, beq_eq_false_iff_ne, bne_iff_ne, List.replicate, encEv, encEnt, zE, encN, encS, encLU, encLK, *]))))
    all_goals (first | rfl | (simp_all; done) | (simp_all; omega) | trace_state)
  · rw [Nat.zero_add] at hi
    have hx := cutD encEv he
    have hlt := cut_lt he
    simp only [encEv] at hx
    have hge : ¬ ((pre.length : Int) < 0) := by omega
    rw [hf, evOf_s, isS_s]
    clear he hf
    iterate 30 (all_goals (try (first
      | ((with_reducible refine of_kSpec ?_); refine call_fz (spec46 es i) rfl ?_)
      | (with_reducible refine ite_in (fun _ => ?_) (fun _ => ?_))
      | (with_reducible refine ⟨fun _ => ?_, fun _ => ?_⟩)
      | (with_reducible refine And.intro ?_ ?_)
      | (with_reducible intro _)
      | (with_reducible exact is_in _)
      | (simp -implicitDefEqProofs only [SD, SF, SL, e_nf, reduceCtorEq, implies_true, ↓reduceIte, Nat.reduceEqDiff, Nat.reduceAdd, Nat.reduceMul, Nat.reduceSub, Nat.reduceLeDiff, Nat.reduceLT, Int.reduceLT, Int.reduceLE, Int.reduceEq, Int.reduceToNat, Int.reduceAdd, Int.reduceSub, Int.reduceNeg, Int.reduceBEq, Int.reduceBNe, Nat.reduceBEq, Int.cast_ofNat_Int, decide_true, decide_false, ne_eq, eq_self_iff_true, beq_eq_false_iff_ne, bne_iff_ne, List.replicate, encEv, encEnt, *]))))
    all_goals (first | rfl | (simp_all; done) | (simp_all; omega) | trace_state)

def ac27 : AC := (.seq (.ops [⟨(some 3), none, (.box (.t 1))⟩, ⟨(some 4), none, (.alloc [(.int .i64 0), (.str []), (.str []), (.int .i64 0), (.bool false), (.str []), (.int .i64 0), (.int .i64 0), .e0, .e0, (.str []), (.int .i64 0), (.int .i64 0), (.bool false), (.str []), .e0, .e0, .e0, .e0, (.int .i64 0), (.int .i64 0), (.int .i64 0), (.int .i64 0), (.int .i64 0), (.int .i64 0), (.int .i64 0), (.int .i64 0), (.str []), (.int .i64 0)])⟩, ⟨(some 5), none, (.mv (.c (.bool false)))⟩]) (.seq (.ops [⟨(some 7), none, (.mv (.t 0))⟩, ⟨(some 8), none, (.mkfn 44 [(.t 3)])⟩, ⟨(some 9), none, (.call false 43 [(.t 7), (.t 8)])⟩, ⟨(some 6), none, (.mv (.t 9))⟩]) (.seq (.seq (.ops [⟨(some 10), none, (.mv (.t 6))⟩, ⟨(some 11), none, (.bin .lss (.t 10) (.c (.int .i64 0)))⟩]) (.cond (.t 11) (.seq (.ops [⟨(some 12), none, (.build [(.int .i64 0), (.str []), (.str []), (.int .i64 0), (.bool false), (.str []), (.int .i64 0), (.int .i64 0), .e0, .e0, (.str []), (.int .i64 0), (.int .i64 0), (.bool false), (.str []), .e0, .e0, .e0, .e0, (.int .i64 0), (.int .i64 0), (.int .i64 0), (.int .i64 0), (.int .i64 0), (.int .i64 0), (.int .i64 0), (.int .i64 0), (.str []), (.int .i64 0)] [])⟩, ⟨none, none, (.sto 29 (.t 4) (.t 12))⟩, ⟨(some 5), none, (.mv (.c (.bool false)))⟩]) .ret) .skip)) (.seq (.ops [⟨(some 13), none, (.mv (.t 0))⟩, ⟨(some 14), none, (.mv (.t 6))⟩, ⟨(some 15), none, (.ix 29 (.t 13) (.t 14))⟩, ⟨(some 16), none, (.ld true 29 (.t 15))⟩, ⟨none, none, (.sto 29 (.t 4) (.t 16))⟩, ⟨(some 5), none, (.mv (.c (.bool true)))⟩]) .ret))))
theorem tr27 : Tryz.f27.body.bind (trCode Tryz.prog) = some (strip ac27) := by kernel_rfl
theorem spec27 (es : List Ev) (q : Ent) : Spec Tryz.prog 27 [.fz (.sl 29 (es.map encEv)), .fz (.agg (encEnt q))] (.fz (.tup [.agg (encEv (evOf (es.find? (hasKey q)))), .bool (es.find? (hasKey q)).isSome])) := by
  refine spec_at (n := 15) (ars := [(.c true 29 4), (.t 5)]) (ac := ac27) Tryz.func27 (by kernel_rfl) (by kernel_rfl) tr27 (by kernel_rfl) ?_
  unfold ac27
  rcases idxP_cases (hasKey q) es 0 with ⟨hi, hf⟩ | ⟨pre, e, rest, he, hi, hf⟩
  · have hz : ¬ ((0 : Int) ≤ -1) := by omega
    rw [hf, evOf_n, isS_n]
    iterate 30 (all_goals (try (first
      | ((with_reducible refine of_kSpec ?_); refine call_fz (specK43 es q) rfl ?_)
      | (with_reducible refine ite_in (fun _ => ?_) (fun _ => ?_))
      | (with_reducible refine ⟨fun _ => ?_, fun _ => ?_⟩)
      | (with_reducible refine And.intro ?_ ?_)
      | (with_reducible intro _)
      | (with_reducible exact is_in _)
      | (simp -implicitDefEqProofs only [SD, SF, SL, e_nf, reduceCtorEq, implies_true, ↓reduceIte, Nat.reduceEqDiff, Nat.reduceAdd, Nat.reduceMul, Nat.reduceSub, Nat.reduceLeDiff, Nat.reduceLT, Int.reduceLT, Int.reduceLE, Int.reduceEq, Int.reduceToNat, Int.reduceAdd, Int.reduceSub, Int.reduceNeg, Int.reduceBEq, Int.reduceBNe, Nat.reduceBEq, Int.cast_ofNat_Int, decide_true, decide_false, ne_eq, eq_self_iff_true, beq_eq_false_iff_ne, bne_iff_ne, List.replicate, encEv, encEnt, zE, encN, encS, encLU, encLK, *]))))
    all_goals (first | rfl | (simp_all; done) | (simp_all; omega) | trace_state)
  · rw [Nat.zero_add] at hi
    have hx := cutD encEv he
    have hlt := cut_lt he
    simp only [encEv] at hx
    have hge : ¬ ((pre.length : Int) < 0) := by omega
    rw [hf, evOf_s, isS_s]
    clear he hf
    iterate 30 (all_goals (try (first
      | ((with_reducible refine of_kSpec ?_); refine call_fz (specK43 es q) rfl ?_)
      | (with_reducible refine ite_in (fun _ => ?_) (fun _ => ?_))
      | (with_reducible refine ⟨fun _ => ?_, fun _ => ?_⟩)
      | (with_reducible refine And.intro ?_ ?_)
      | (with_reducible intro _)
      | (with_reducible exact is_in _)
      | (simp -implicitDefEqProofs only [SD, SF, SL, e_nf, reduceCtorEq, implies_true, ↓reduceIte, Nat.reduceEqDiff, Nat.reduceAdd, Nat.reduceMul, Nat.reduceSub, Nat.reduceLeDiff, Nat.reduceLT, Int.reduceLT, Int.reduceLE, Int.reduceEq, Int.reduceToNat, Int.reduceAdd, Int.reduceSub, Int.reduceNeg, Int.reduceBEq, Int.reduceBNe, Nat.reduceBEq, Int.cast_ofNat_Int, decide_true, decide_false, ne_eq, eq_self_iff_true, beq_eq_false_iff_ne, bne_iff_ne, List.replicate, encEv, encEnt, *]))))
    all_goals (first | rfl | (simp_all; done) | (simp_all; omega) | trace_state)

def ac32 : AC := (.seq (.ops [⟨(some 4), none, (.mv (.c (.int .i64 0)))⟩]) (.seq (.seq (.ops [⟨(some 5), none, (.mv (.c (.int .i64 0)))⟩]) (.block 0 (.loop (.seq (.seq (.ops [⟨(some 6), none, (.mv (.t 5))⟩, ⟨(some 7), none, (.mv (.t 0))⟩, ⟨(some 8), none, (.len (.t 7))⟩, ⟨(some 9), none, (.bin .lss (.t 6) (.t 8))⟩]) (.cond (.t 9) .skip (.exit 0))) (.seq (.block 1 (.seq (.ops [⟨(some 12), none, (.mv (.t 0))⟩, ⟨(some 13), none, (.mv (.t 5))⟩, ⟨(some 14), none, (.ix 29 (.t 12) (.t 13))⟩, ⟨(some 15), none, (.fld 0 (.t 14))⟩, ⟨(some 16), none, (.ld false 1 (.t 15))⟩, ⟨(some 17), none, (.mv (.t 1))⟩, ⟨(some 18), none, (.bin .eql (.t 16) (.t 17))⟩]) (.cond (.t 18) (.seq (.ops [⟨(some 19), none, (.mv (.t 5))⟩, ⟨(some 4), none, (.mv (.t 19))⟩]) .ret) .skip))) (.ops [⟨(some 10), none, (.mv (.t 5))⟩, ⟨(some 11), none, (.bin .add (.t 10) (.c (.int .i64 1)))⟩, ⟨(some 5), none, (.mv (.t 11))⟩])))))) (.seq (.ops [⟨(some 4), none, (.mv (.c (.int .i64 (-1))))⟩]) .ret)))
theorem tr32 : Tryz.f32.body.bind (trCode Tryz.prog) = some (strip ac32) := by kernel_rfl
theorem spec32 (es : List Ev) (i : Int) : Spec Tryz.prog 32 [.fz (.sl 29 (es.map encEv)), .fz (.int .i64 i)] (.fz (.int .i64 (idxP (hasId i) es 0))) := by
  refine spec_at (n := 18) (ars := [(.t 4)]) (ac := ac32) Tryz.func32 (by kernel_rfl) (by kernel_rfl) tr32 (by kernel_rfl) ?_
  unfold ac32
  simp -implicitDefEqProofs only [SD, SF, SL, e_nf, reduceCtorEq, implies_true, ↓reduceIte, Nat.reduceEqDiff, Nat.reduceAdd, Nat.reduceMul, Nat.reduceSub, Nat.reduceLeDiff, Nat.reduceLT, Int.reduceLT, Int.reduceLE, Int.reduceEq, Int.reduceToNat, Int.reduceAdd, Int.reduceSub, Int.reduceNeg, Int.reduceBEq, Int.reduceBNe, Nat.reduceBEq, Int.cast_ofNat_Int, decide_true, decide_false, ne_eq, eq_self_iff_true, beq_eq_false_iff_ne, bne_iff_ne, List.replicate]
  refine loop_q (X := List Ev × List Ev × Unit) (fun n x => es = x.1 ++ x.2.1 ∧ n = x.2.1.length ∧ (idxP (hasId i) es 0 = idxP (hasId i) x.2.1 x.1.length)) (fun x => [(5, .int .i64 x.1.length)]) (fun _ => []) [4, 6, 7, 8, 9, 10, 11, 12, 13, 14, 15, 16, 17, 18, 19] []  (es).length ([], es, ()) ⟨rfl, rfl, by first | rfl | assumption | (simp_all [idxP, hasId]; done) | grind [idxP, hasId]⟩ ?_ ?_
  · simp -implicitDefEqProofs only [SD, SF, SL, e_nf, reduceCtorEq, implies_true, ↓reduceIte, Nat.reduceEqDiff, Nat.reduceAdd, Nat.reduceMul, Nat.reduceSub, Nat.reduceLeDiff, Nat.reduceLT, Int.reduceLT, Int.reduceLE, Int.reduceEq, Int.reduceToNat, Int.reduceAdd, Int.reduceSub, Int.reduceNeg, Int.reduceBEq, Int.reduceBNe, Nat.reduceBEq, Int.cast_ofNat_Int, decide_true, decide_false, ne_eq, eq_self_iff_true, beq_eq_false_iff_ne, bne_iff_ne, List.replicate, idxP, hasId] <;> simp
  · rintro n ⟨pre, rest, a⟩ ⟨he, rfl, hI⟩
    dsimp only at he hI
    cases rest with
    | nil =>
      obtain rfl : es = pre := by simpa using he
      clear he
      have hlt : ¬ (((es).length : Int) < ((es).length : Int)) := Int.lt_irrefl _
      iterate 30 (all_goals (try (first
        | (with_reducible refine ite_in (fun _ => ?_) (fun _ => ?_))
        | (with_reducible refine ⟨fun _ => ?_, fun _ => ?_⟩)
        | (with_reducible refine And.intro ?_ ?_)
        | (with_reducible intro _)
        | (with_reducible exact is_in _)
        | (simp -implicitDefEqProofs only [SD, SF, SL, e_nf, reduceCtorEq, implies_true, ↓reduceIte, Nat.reduceEqDiff, Nat.reduceAdd, Nat.reduceMul, Nat.reduceSub, Nat.reduceLeDiff, Nat.reduceLT, Int.reduceLT, Int.reduceLE, Int.reduceEq, Int.reduceToNat, Int.reduceAdd, Int.reduceSub, Int.reduceNeg, Int.reduceBEq, Int.reduceBNe, Nat.reduceBEq, Int.cast_ofNat_Int, decide_true, decide_false, ne_eq, eq_self_iff_true, beq_eq_false_iff_ne, bne_iff_ne, List.replicate, idxP, hasId, *]))))

    | cons x rest =>
      have hlt := cut_lt he
      have hx := cutD encEv he
      simp only [encEv] at hx
      simp -implicitDefEqProofs only [SD, SF, SL, e_nf, reduceCtorEq, implies_true, ↓reduceIte, Nat.reduceEqDiff, Nat.reduceAdd, Nat.reduceMul, Nat.reduceSub, Nat.reduceLeDiff, Nat.reduceLT, Int.reduceLT, Int.reduceLE, Int.reduceEq, Int.reduceToNat, Int.reduceAdd, Int.reduceSub, Int.reduceNeg, Int.reduceBEq, Int.reduceBNe, Nat.reduceBEq, Int.cast_ofNat_Int, decide_true, decide_false, ne_eq, eq_self_iff_true, beq_eq_false_iff_ne, bne_iff_ne, List.replicate, idxP, hasId, hlt]
      intro hl
      have hw := wrap_len (n := pre.length) (m := (es).length) (cut_lt' he) (by simpa using hl)
      replace he := Hd.mk he
      iterate 30 (all_goals (try (first
        | ((with_reducible refine back_in rest.length [4, 6, 7, 8, 9, 10, 11, 12, 13, 14, 15, 16, 17, 18, 19] [] (pre ++ [x], rest, a) ?_ ⟨?_, ?_, ?_⟩ ?_)
           · simp
           · exact cut_snoc he.out
           · rfl
           · first | rfl | assumption | (simp_all [idxP, hasId]; done) | grind [idxP, hasId]
           · first | (simp -implicitDefEqProofs only [SD, SF, SL, e_nf, reduceCtorEq, implies_true, ↓reduceIte, Nat.reduceEqDiff, Nat.reduceAdd, Nat.reduceMul, Nat.reduceSub, Nat.reduceLeDiff, Nat.reduceLT, Int.reduceLT, Int.reduceLE, Int.reduceEq, Int.reduceToNat, Int.reduceAdd, Int.reduceSub, Int.reduceNeg, Int.reduceBEq, Int.reduceBNe, Nat.reduceBEq, Int.cast_ofNat_Int, decide_true, decide_false, ne_eq, eq_self_iff_true, beq_eq_false_iff_ne, bne_iff_ne, List.replicate, idxP, hasId] <;> simp <;> done) | (simp -implicitDefEqProofs only [SD, SF, SL, e_nf, reduceCtorEq, implies_true, ↓reduceIte, Nat.reduceEqDiff, Nat.reduceAdd, Nat.reduceMul, Nat.reduceSub, Nat.reduceLeDiff, Nat.reduceLT, Int.reduceLT, Int.reduceLE, Int.reduceEq, Int.reduceToNat, Int.reduceAdd, Int.reduceSub, Int.reduceNeg, Int.reduceBEq, Int.reduceBNe, Nat.reduceBEq, Int.cast_ofNat_Int, decide_true, decide_false, ne_eq, eq_self_iff_true, beq_eq_false_iff_ne, bne_iff_ne, List.replicate, idxP, hasId, *] <;> simp_all <;> done))
        | (with_reducible refine ite_in (fun _ => ?_) (fun _ => ?_))
        | (with_reducible refine ⟨fun _ => ?_, fun _ => ?_⟩)
        | (with_reducible refine And.intro ?_ ?_)
        | (with_reducible intro _)
        | (with_reducible exact is_in _)
        | (simp -implicitDefEqProofs only [SD, SF, SL, e_nf, reduceCtorEq, implies_true, ↓reduceIte, Nat.reduceEqDiff, Nat.reduceAdd, Nat.reduceMul, Nat.reduceSub, Nat.reduceLeDiff, Nat.reduceLT, Int.reduceLT, Int.reduceLE, Int.reduceEq, Int.reduceToNat, Int.reduceAdd, Int.reduceSub, Int.reduceNeg, Int.reduceBEq, Int.reduceBNe, Nat.reduceBEq, Int.cast_ofNat_Int, decide_true, decide_false, ne_eq, eq_self_iff_true, beq_eq_false_iff_ne, bne_iff_ne, List.replicate, idxP, hasId, *]))))
def ac17 : AC := (.seq (.ops [⟨(some 4), none, (.alloc [(.int .i64 0), (.str []), (.str []), (.int .i64 0), (.bool false), (.str []), (.int .i64 0), (.int .i64 0), .e0, .e0, (.str []), (.int .i64 0), (.int .i64 0), (.bool false), (.str []), .e0, .e0, .e0, .e0, (.int .i64 0), (.int .i64 0), (.int .i64 0), (.int .i64 0), (.int .i64 0), (.int .i64 0), (.int .i64 0), (.int .i64 0), (.str []), (.int .i64 0)])⟩, ⟨(some 5), none, (.mv (.c (.bool false)))⟩]) (.seq (.ops [⟨(some 7), none, (.mv (.t 0))⟩, ⟨(some 8), none, (.mv (.t 1))⟩, ⟨(some 9), none, (.call false 32 [(.t 7), (.t 8)])⟩, ⟨(some 6), none, (.mv (.t 9))⟩]) (.seq (.seq (.ops [⟨(some 10), none, (.mv (.t 6))⟩, ⟨(some 11), none, (.bin .lss (.t 10) (.c (.int .i64 0)))⟩]) (.cond (.t 11) (.seq (.ops [⟨(some 12), none, (.build [(.int .i64 0), (.str []), (.str []), (.int .i64 0), (.bool false), (.str []), (.int .i64 0), (.int .i64 0), .e0, .e0, (.str []), (.int .i64 0), (.int .i64 0), (.bool false), (.str []), .e0, .e0, .e0, .e0, (.int .i64 0), (.int .i64 0), (.int .i64 0), (.int .i64 0), (.int .i64 0), (.int .i64 0), (.int .i64 0), (.int .i64 0), (.str []), (.int .i64 0)] [])⟩, ⟨none, none, (.sto 29 (.t 4) (.t 12))⟩, ⟨(some 5), none, (.mv (.c (.bool false)))⟩]) .ret) .skip)) (.seq (.ops [⟨(some 13), none, (.mv (.t 0))⟩, ⟨(some 14), none, (.mv (.t 6))⟩, ⟨(some 15), none, (.ix 29 (.t 13) (.t 14))⟩, ⟨(some 16), none, (.ld true 29 (.t 15))⟩, ⟨none, none, (.sto 29 (.t 4) (.t 16))⟩, ⟨(some 5), none, (.mv (.c (.bool true)))⟩]) .ret))))
theorem tr17 : Tryz.f17.body.bind (trCode Tryz.prog) = some (strip ac17) := by kernel_rfl
theorem spec17 (es : List Ev) (i : Int) : Spec Tryz.prog 17 [.fz (.sl 29 (es.map encEv)), .fz (.int .i64 i)] (.fz (.tup [.agg (encEv (evOf (es.find? (hasId i)))), .bool (es.find? (hasId i)).isSome])) := by
  refine spec_at (n := 15) (ars := [(.c true 29 4), (.t 5)]) (ac := ac17) Tryz.func17 (by kernel_rfl) (by kernel_rfl) tr17 (by kernel_rfl) ?_
  unfold ac17
  rcases idxP_cases (hasId i) es 0 with ⟨hi, hf⟩ | ⟨pre, e, rest, he, hi, hf⟩
  · have hz : ¬ ((0 : Int) ≤ -1) := by omega
    rw [hf, evOf_n, isS_n]
    iterate 30 (all_goals (try (first
      | ((with_reducible refine of_kSpec ?_); refine call_fz (spec32 es i) rfl ?_)
      | (with_reducible refine ite_in (fun _ => ?_) (fun _ => ?_))
      | (with_reducible refine ⟨fun _ => ?_, fun _ => ?_⟩)
      | (with_reducible refine And.intro ?_ ?_)
      | (with_reducible intro _)
      | (with_reducible exact is_in _)
      | (simp -implicitDefEqProofs only [SD, SF, SL, e_nf, reduceCtorEq, implies_true, ↓reduceIte, Nat.reduceEqDiff, Nat.reduceAdd, Nat.reduceMul, Nat.reduceSub, Nat.reduceLeDiff, Nat.reduceLT, Int.reduceLT, Int.reduceLE, Int.reduceEq, Int.reduceToNat, Int.reduceAdd, Int.reduceSub, Int.reduceNeg, Int.reduceBEq, Int.reduceBNe, Nat.reduceBEq, Int.cast_ofNat_Int, decide_true, decide_false, ne_eq, eq_self_iff_true, beq_eq_false_iff_ne, bne_iff_ne, List.replicate, encEv, encEnt, zE, encN, encS, encLU, encLK, *]))))
    all_goals (first | rfl | (simp_all; done) | (simp_all; omega) | trace_state)
  · rw [Nat.zero_add] at hi
    have hx := cutD encEv he
    have hlt := cut_lt he
    simp only [encEv] at hx
    have hge : ¬ ((pre.length : Int) < 0) := by omega
    rw [hf, evOf_s, isS_s]
    clear he hf
    iterate 30 (all_goals (try (first
      | ((with_reducible refine of_kSpec ?_); refine call_fz (spec32 es i) rfl ?_)
      | (with_reducible refine ite_in (fun _ => ?_) (fun _ => ?_))
      | (with_reducible refine ⟨fun _ => ?_, fun _ => ?_⟩)
      | (with_reducible refine And.intro ?_ ?_)
      | (with_reducible intro _)
      | (with_reducible exact is_in _)
      | (simp -implicitDefEqProofs only [SD, SF, SL, e_nf, reduceCtorEq, implies_true, ↓reduceIte, Nat.reduceEqDiff, Nat.reduceAdd, Nat.reduceMul, Nat.reduceSub, Nat.reduceLeDiff, Nat.reduceLT, Int.reduceLT, Int.reduceLE, Int.reduceEq, Int.reduceToNat, Int.reduceAdd, Int.reduceSub, Int.reduceNeg, Int.reduceBEq, Int.reduceBNe, Nat.reduceBEq, Int.cast_ofNat_Int, decide_true, decide_false, ne_eq, eq_self_iff_true, beq_eq_false_iff_ne, bne_iff_ne, List.replicate, encEv, encEnt, *]))))
    all_goals (first | rfl | (simp_all; done) | (simp_all; omega) | trace_state)

def ac41 : AC := (.seq (.ops [⟨(some 6), none, (.alloc [(.int .i64 0), (.str []), (.str []), (.int .i64 0), (.bool false), (.str []), (.int .i64 0), (.int .i64 0), .e0, .e0, (.str []), (.int .i64 0), (.int .i64 0), (.bool false), (.str []), .e0, .e0, .e0, .e0, (.int .i64 0), (.int .i64 0), (.int .i64 0), (.int .i64 0), (.int .i64 0), (.int .i64 0), (.int .i64 0), (.int .i64 0), (.str []), (.int .i64 0)])⟩, ⟨(some 7), none, (.mv (.c (.bool false)))⟩]) (.seq (.seq (.ops [⟨(some 8), none, (.mv (.c (.int .i64 0)))⟩]) (.block 0 (.loop (.seq (.seq (.ops [⟨(some 9), none, (.mv (.t 8))⟩, ⟨(some 10), none, (.mv (.t 0))⟩, ⟨(some 11), none, (.len (.t 10))⟩, ⟨(some 12), none, (.bin .lss (.t 9) (.t 11))⟩]) (.cond (.t 12) .skip (.exit 0))) (.seq (.block 1 (.seq (.ops [⟨(some 15), none, (.mv (.t 0))⟩, ⟨(some 16), none, (.mv (.t 8))⟩, ⟨(some 17), none, (.ix 29 (.t 15) (.t 16))⟩, ⟨(some 18), none, (.fld 3 (.t 17))⟩, ⟨(some 19), none, (.ld false 1 (.t 18))⟩, ⟨(some 20), none, (.mv (.t 1))⟩, ⟨(some 21), none, (.bin .eql (.t 19) (.t 20))⟩, ⟨(some 22), none, (.mv (.t 21))⟩, ⟨(some 23), (some (22, true)), (.mv (.t 0))⟩, ⟨(some 24), (some (22, true)), (.mv (.t 8))⟩, ⟨(some 25), (some (22, true)), (.ix 29 (.t 23) (.t 24))⟩, ⟨(some 26), (some (22, true)), (.fld 5 (.t 25))⟩, ⟨(some 27), (some (22, true)), (.ld false 1 (.t 26))⟩, ⟨(some 28), (some (22, true)), (.mv (.t 2))⟩, ⟨(some 29), (some (22, true)), (.bin .eql (.t 27) (.t 28))⟩, ⟨(some 30), none, (.pick (.t 22) (.t 29) (.c (.bool false)))⟩]) (.cond (.t 30) (.seq (.ops [⟨(some 31), none, (.mv (.t 0))⟩, ⟨(some 32), none, (.mv (.t 8))⟩, ⟨(some 33), none, (.ix 29 (.t 31) (.t 32))⟩, ⟨(some 34), none, (.ld true 29 (.t 33))⟩, ⟨none, none, (.sto 29 (.t 6) (.t 34))⟩, ⟨(some 7), none, (.mv (.c (.bool true)))⟩]) .ret) .skip))) (.ops [⟨(some 13), none, (.mv (.t 8))⟩, ⟨(some 14), none, (.bin .add (.t 13) (.c (.int .i64 1)))⟩, ⟨(some 8), none, (.mv (.t 14))⟩])))))) (.seq (.ops [⟨(some 35), none, (.build [(.int .i64 0), (.str []), (.str []), (.int .i64 0), (.bool false), (.str []), (.int .i64 0), (.int .i64 0), .e0, .e0, (.str []), (.int .i64 0), (.int .i64 0), (.bool false), (.str []), .e0, .e0, .e0, .e0, (.int .i64 0), (.int .i64 0), (.int .i64 0), (.int .i64 0), (.int .i64 0), (.int .i64 0), (.int .i64 0), (.int .i64 0), (.str []), (.int .i64 0)] [])⟩, ⟨none, none, (.sto 29 (.t 6) (.t 35))⟩, ⟨(some 7), none, (.mv (.c (.bool false)))⟩]) .ret)))
theorem tr41 : Tryz.f41.body.bind (trCode Tryz.prog) = some (strip ac41) := by kernel_rfl
theorem spec41 (es : List Ev) (k : Int) (u : List UInt8) : Spec Tryz.prog 41 [.fz (.sl 29 (es.map encEv)), .fz (.int .i64 k), .fz (.str u)] (.fz (.tup [.agg (encEv (evOf (es.find? (hasKey ⟨k, u, 0⟩)))), .bool (es.find? (hasKey ⟨k, u, 0⟩)).isSome])) := by
  refine spec_at (n := 33) (ars := [(.c true 29 6), (.t 7)]) (ac := ac41) Tryz.func41 (by kernel_rfl) (by kernel_rfl) tr41 (by kernel_rfl) ?_
  unfold ac41
  simp -implicitDefEqProofs only [SD, SF, SL, e_nf, reduceCtorEq, implies_true, ↓reduceIte, Nat.reduceEqDiff, Nat.reduceAdd, Nat.reduceMul, Nat.reduceSub, Nat.reduceLeDiff, Nat.reduceLT, Int.reduceLT, Int.reduceLE, Int.reduceEq, Int.reduceToNat, Int.reduceAdd, Int.reduceSub, Int.reduceNeg, Int.reduceBEq, Int.reduceBNe, Nat.reduceBEq, Int.cast_ofNat_Int, decide_true, decide_false, ne_eq, eq_self_iff_true, beq_eq_false_iff_ne, bne_iff_ne, List.replicate]
  refine loop_q (X := List Ev × List Ev × Unit) (fun n x => es = x.1 ++ x.2.1 ∧ n = x.2.1.length ∧ (es.find? (hasKey ⟨k, u, 0⟩) = x.2.1.find? (hasKey ⟨k, u, 0⟩))) (fun x => [(8, .int .i64 x.1.length)]) (fun _ => []) [7, 9, 10, 11, 12, 13, 14, 15, 16, 17, 18, 19, 20, 21, 22, 23, 24, 25, 26, 27, 28, 29, 30, 31, 32, 33, 34] []  (es).length ([], es, ()) ⟨rfl, rfl, by first | rfl | assumption⟩ ?_ ?_
  · simp -implicitDefEqProofs only [SD, SF, SL, e_nf, reduceCtorEq, implies_true, ↓reduceIte, Nat.reduceEqDiff, Nat.reduceAdd, Nat.reduceMul, Nat.reduceSub, Nat.reduceLeDiff, Nat.reduceLT, Int.reduceLT, Int.reduceLE, Int.reduceEq, Int.reduceToNat, Int.reduceAdd, Int.reduceSub, Int.reduceNeg, Int.reduceBEq, Int.reduceBNe, Nat.reduceBEq, Int.cast_ofNat_Int, decide_true, decide_false, ne_eq, eq_self_iff_true, beq_eq_false_iff_ne, bne_iff_ne, List.replicate, encEv] <;> simp
  · rintro n ⟨pre, rest, a⟩ ⟨he, rfl, hI⟩
    dsimp only at he hI
    cases rest with
    | nil =>
      obtain rfl : es = pre := by simpa using he
      clear he
      have hlt : ¬ (((es).length : Int) < ((es).length : Int)) := Int.lt_irrefl _
      iterate 30 (all_goals (try (first
        | (with_reducible refine ite_in (fun _ => ?_) (fun _ => ?_))
        | (with_reducible refine ⟨fun _ => ?_, fun _ => ?_⟩)
        | (with_reducible refine And.intro ?_ ?_)
        | (with_reducible intro _)
        | (with_reducible exact is_in _)
        | (simp -implicitDefEqProofs only [SD, SF, SL, e_nf, reduceCtorEq, implies_true, ↓reduceIte, Nat.reduceEqDiff, Nat.reduceAdd, Nat.reduceMul, Nat.reduceSub, Nat.reduceLeDiff, Nat.reduceLT, Int.reduceLT, Int.reduceLE, Int.reduceEq, Int.reduceToNat, Int.reduceAdd, Int.reduceSub, Int.reduceNeg, Int.reduceBEq, Int.reduceBNe, Nat.reduceBEq, Int.cast_ofNat_Int, decide_true, decide_false, ne_eq, eq_self_iff_true, beq_eq_false_iff_ne, bne_iff_ne, List.replicate, encEv, *]))))
      all_goals (first | (rw [hI]; first | rfl | simp [evOf, zE, encEv]; done) | (simp_all [evOf, zE, encEv, encN, encS]; done) | trace_state)

    | cons x rest =>
      have hlt := cut_lt he
      have hx := cutD encEv he
      simp only [encEv] at hx
      simp -implicitDefEqProofs only [SD, SF, SL, e_nf, reduceCtorEq, implies_true, ↓reduceIte, Nat.reduceEqDiff, Nat.reduceAdd, Nat.reduceMul, Nat.reduceSub, Nat.reduceLeDiff, Nat.reduceLT, Int.reduceLT, Int.reduceLE, Int.reduceEq, Int.reduceToNat, Int.reduceAdd, Int.reduceSub, Int.reduceNeg, Int.reduceBEq, Int.reduceBNe, Nat.reduceBEq, Int.cast_ofNat_Int, decide_true, decide_false, ne_eq, eq_self_iff_true, beq_eq_false_iff_ne, bne_iff_ne, List.replicate, encEv, hlt]
      intro hl
      have hw := wrap_len (n := pre.length) (m := (es).length) (cut_lt' he) (by simpa using hl)
      replace he := Hd.mk he
      have hfc : (x :: rest).find? (hasKey ⟨k, u, 0⟩) = if x.kind = k ∧ x.key = u then some x else rest.find? (hasKey ⟨k, u, 0⟩) := by
        rw [List.find?_cons]
        by_cases h1 : x.kind = k <;> by_cases h2 : x.key = u <;> simp [hasKey, h1, h2]
      by_cases h1 : x.kind = k
      all_goals by_cases h2 : x.key = u
      all_goals simp only [h1, h2, and_self, and_true, true_and, and_false, false_and, if_true, if_false] at hfc
      all_goals rw [hfc] at hI
      iterate 30 (all_goals (try (first
        | ((with_reducible refine back_in rest.length [7, 9, 10, 11, 12, 13, 14, 15, 16, 17, 18, 19, 20, 21, 22, 23, 24, 25, 26, 27, 28, 29, 30, 31, 32, 33, 34] [] (pre ++ [x], rest, a) ?_ ⟨?_, ?_, ?_⟩ ?_)
           · simp
           · exact cut_snoc he.out
           · rfl
           · first | rfl | assumption
           · first | (simp -implicitDefEqProofs only [SD, SF, SL, e_nf, reduceCtorEq, implies_true, ↓reduceIte, Nat.reduceEqDiff, Nat.reduceAdd, Nat.reduceMul, Nat.reduceSub, Nat.reduceLeDiff, Nat.reduceLT, Int.reduceLT, Int.reduceLE, Int.reduceEq, Int.reduceToNat, Int.reduceAdd, Int.reduceSub, Int.reduceNeg, Int.reduceBEq, Int.reduceBNe, Nat.reduceBEq, Int.cast_ofNat_Int, decide_true, decide_false, ne_eq, eq_self_iff_true, beq_eq_false_iff_ne, bne_iff_ne, List.replicate, encEv] <;> simp <;> done) | (simp -implicitDefEqProofs only [SD, SF, SL, e_nf, reduceCtorEq, implies_true, ↓reduceIte, Nat.reduceEqDiff, Nat.reduceAdd, Nat.reduceMul, Nat.reduceSub, Nat.reduceLeDiff, Nat.reduceLT, Int.reduceLT, Int.reduceLE, Int.reduceEq, Int.reduceToNat, Int.reduceAdd, Int.reduceSub, Int.reduceNeg, Int.reduceBEq, Int.reduceBNe, Nat.reduceBEq, Int.cast_ofNat_Int, decide_true, decide_false, ne_eq, eq_self_iff_true, beq_eq_false_iff_ne, bne_iff_ne, List.replicate, encEv, *] <;> simp_all <;> done))
        | (with_reducible refine ite_in (fun _ => ?_) (fun _ => ?_))
        | (with_reducible refine ⟨fun _ => ?_, fun _ => ?_⟩)
        | (with_reducible refine And.intro ?_ ?_)
        | (with_reducible intro _)
        | (with_reducible exact is_in _)
        | (simp -implicitDefEqProofs only [SD, SF, SL, e_nf, reduceCtorEq, implies_true, ↓reduceIte, Nat.reduceEqDiff, Nat.reduceAdd, Nat.reduceMul, Nat.reduceSub, Nat.reduceLeDiff, Nat.reduceLT, Int.reduceLT, Int.reduceLE, Int.reduceEq, Int.reduceToNat, Int.reduceAdd, Int.reduceSub, Int.reduceNeg, Int.reduceBEq, Int.reduceBNe, Nat.reduceBEq, Int.cast_ofNat_Int, decide_true, decide_false, ne_eq, eq_self_iff_true, beq_eq_false_iff_ne, bne_iff_ne, List.replicate, encEv, *]))))
      all_goals (first | (rw [hI]; first | rfl | simp [evOf, encEv]; done) | (simp_all [evOf, encEv]; done) | trace_state)

end Go.Proofs.YtcolebkklojccaaGreat.E

namespace Go.Proofs.YtcolebkklojccaaGreat.E
open Go
set_option maxHeartbeats 4000000
set_option maxRecDepth 100000
set_option linter.unusedSimpArgs false
set_option linter.unusedVariables false
attribute [local congr] c_wp c_ops c_op c_opS c_run c_runS c_dt c_seq c_blk c_loop c_S c_put c_bind c_mv c_pick c_nt c_ng c_bin c_binI c_binS c_beq c_B c_eqa c_hd c_cells c_blkK c_box c_vec c_mp c_nck c_mks c_appn c_mkm c_mput c_mlk c_mrm c_take c_ld c_ldF c_cellsK c_st c_fld c_fldv c_ix c_ixp c_ixv c_ixs c_sub c_subs c_len c_lens c_src c_dst c_ow c_app c_ext c_mm c_conv c_str c_isn c_fill c_rows c_boxo c_frz c_frzO c_frzA c_frzV c_spec c_specO c_opsP c_opP c_runP c_specP c_Z c_qretP c_fz c_fn c_gv c_cond c_res1 c_resL c_ret c_qret c_ite c_unr c_nx c_bk c_cut c_is
attribute [local irreducible] dwp

def isK (q y : Ent) : Bool := decide (y.kind = q.kind) && decide (y.key = q.key)
def getL (l : List Ent) (q : Ent) : Int × Bool := match l.find? (isK q) with | some y => (y.ident, true) | none => (0, false)
theorem getL_nil (q : Ent) : getL [] q = (0, false) := rfl
theorem getL_cons (x : Ent) (l : List Ent) (q : Ent) : getL (x :: l) q = if isK q x = true then (x.ident, true) else getL l q := by
  unfold getL
  rw [List.find?_cons]
  cases h : isK q x <;> simp
theorem len_setS (l : List Ent) (q : Ent) : (setS l q).length ≤ l.length + 1 := by
  have h2 : (l.takeWhile (bq q)).length + (l.dropWhile (bq q)).length = l.length := by rw [← List.length_append, List.takeWhile_append_dropWhile]
  unfold setS
  split
  · rename_i h
    rw [h] at h2
    simp at h2 ⊢
    omega
  · rename_i y rest h
    rw [h] at h2
    simp at h2
    split <;> simp <;> omega
theorem blt_irr : ∀ a : List UInt8, Op.bytesLess a a = false
  | [] => rfl
  | a :: x => by simp [Op.bytesLess, blt_irr x]
theorem blt_anti : ∀ a b : List UInt8, Op.bytesLess a b = true → Op.bytesLess b a = false
  | [], [], h => by simp [Op.bytesLess] at h
  | _ :: _, [], h => by simp [Op.bytesLess] at h
  | [], _ :: _, _ => rfl
  | a :: x, b :: y, h => by
    simp only [Op.bytesLess, Bool.or_eq_true, Bool.and_eq_true, decide_eq_true_eq, beq_iff_eq] at h
    rcases h with h | ⟨rfl, h⟩
    · have h1 : ¬ b < a := by simp only [UInt8.lt_iff_toNat_lt] at *; omega
      have h2 : ¬ b = a := by rintro rfl; simp only [UInt8.lt_iff_toNat_lt] at h; omega
      simp [Op.bytesLess, h1, h2]
    · simp [Op.bytesLess, blt_irr, blt_anti x y h, UInt8.lt_iff_toNat_lt]
theorem blt_tri : ∀ a b : List UInt8, Op.bytesLess a b = true ∨ a = b ∨ Op.bytesLess b a = true
  | [], [] => .inr (.inl rfl)
  | [], _ :: _ => .inl rfl
  | _ :: _, [] => .inr (.inr rfl)
  | a :: x, b :: y => by
    simp only [Op.bytesLess]
    rcases Nat.lt_trichotomy a.toNat b.toNat with h | h | h
    · exact .inl (by simp [UInt8.lt_iff_toNat_lt, h])
    · have e : a = b := UInt8.toNat_inj.1 h
      subst e
      rcases blt_tri x y with h | h | h
      · exact .inl (by simp [h])
      · exact .inr (.inl (by rw [h]))
      · exact .inr (.inr (by simp [h]))
    · exact .inr (.inr (by simp [UInt8.lt_iff_toNat_lt, h]))
/-- how an entry stands to the one that is looked for -/
theorem ent_tri (x : Ent) (k : Int) (u : List UInt8) : (x.kind < k) ∨ (x.kind = k ∧ Op.bytesLess x.key u = true) ∨ (x.kind = k ∧ x.key = u) ∨ (x.kind = k ∧ Op.bytesLess x.key u = false ∧ ¬ x.key = u ∧ Op.bytesLess u x.key = true) ∨ (¬ x.kind < k ∧ ¬ x.kind = k ∧ k < x.kind) := by
  by_cases h1 : x.kind < k
  · exact .inl h1
  · by_cases h2 : x.kind = k
    · rcases blt_tri x.key u with h | h | h
      · exact .inr (.inl ⟨h2, h⟩)
      · exact .inr (.inr (.inl ⟨h2, h⟩))
      · refine .inr (.inr (.inr (.inl ⟨h2, blt_anti _ _ h, ?_, h⟩)))
        rintro rfl
        rw [blt_irr] at h
        cases h
    · exact .inr (.inr (.inr (.inr ⟨h1, h2, by omega⟩)))
/-- a key that stands there already -/
theorem set_same {l pre : List Ent} {x : Ent} {rest : List Ent} (he : l = pre ++ x :: rest) (h : pre.all (bq x) = true) : setS l x = l := by
  have hx : bq x x = false := by simp [bq, precB, blt_irr]
  have hp : precB x x = false := by simp [precB, blt_irr]
  rw [set_mid he h hx, if_pos hp, he]
def allZ (l : List Ent) : Prop := ∀ x ∈ l, x.ident = 0
theorem allZ_nil : allZ [] := fun _ h => absurd h (by simp)
theorem mem_setS {l : List Ent} {q x : Ent} (h : x ∈ setS l q) : x = q ∨ x ∈ l := by
  unfold setS at h
  rw [List.mem_append, List.mem_cons] at h
  rcases h with h | h | h
  · exact .inr ((List.takeWhile_sublist _).subset h)
  · exact .inl h
  · have hs : ∀ y rest, l.dropWhile (bq q) = y :: rest → ∀ z ∈ y :: rest, z ∈ l := fun y rest e z hz => (List.dropWhile_sublist (bq q)).subset (by rw [e]; exact hz)
    split at h
    · simp at h
    · rename_i y rest e
      split at h
      · exact .inr (hs y rest e x (by simp [h]))
      · exact .inr (hs y rest e x h)
theorem allZ_set {l : List Ent} {q : Ent} (h : allZ l) (hq : q.ident = 0) : allZ (setS l q) := by
  intro x hx
  rcases mem_setS hx with rfl | hx
  · exact hq
  · exact h x hx
/-- the keys of an event -/
def keysE (e : Ev) : List Ent := if e.kind = 1 then [] else
  if e.kind = 2 then (if e.n = 3 ∨ e.n = 1 ∨ e.n = 2 then setS (setS (setS (setS (setS [] ⟨1, [], 0⟩) ⟨3, [], 0⟩) ⟨2, e.sender, 0⟩) ⟨2, e.key, 0⟩) ⟨4, [], 0⟩ else setS (setS (setS (setS [] ⟨1, [], 0⟩) ⟨3, [], 0⟩) ⟨2, e.sender, 0⟩) ⟨2, e.key, 0⟩)
  else setS (setS (setS [] ⟨1, [], 0⟩) ⟨3, [], 0⟩) ⟨2, e.sender, 0⟩
theorem len_keysE (e : Ev) : (keysE e).length ≤ 5 := by
  unfold keysE
  have h1 := len_setS [] ⟨1, [], 0⟩
  have h2 := len_setS (setS [] ⟨1, [], 0⟩) ⟨3, [], 0⟩
  have h3 := len_setS (setS (setS [] ⟨1, [], 0⟩) ⟨3, [], 0⟩) ⟨2, e.sender, 0⟩
  have h4 := len_setS (setS (setS (setS [] ⟨1, [], 0⟩) ⟨3, [], 0⟩) ⟨2, e.sender, 0⟩) ⟨2, e.key, 0⟩
  have h5 := len_setS (setS (setS (setS (setS [] ⟨1, [], 0⟩) ⟨3, [], 0⟩) ⟨2, e.sender, 0⟩) ⟨2, e.key, 0⟩) ⟨4, [], 0⟩
  simp only [List.length_nil] at h1
  repeat' split
  all_goals (first | (simp; done) | omega)
def ofL (es : List Ev) (l : List Int) : List Ev := l.filterMap fun i => es.find? (hasId i)
theorem ofL_none {es : List Ev} {l : List Int} {i : Int} (h : es.find? (hasId i) = none) : ofL es (l ++ [i]) = ofL es l := by simp [ofL, h]
theorem ofL_some {es : List Ev} {l : List Int} {i : Int} {e : Ev} (h : es.find? (hasId i) = some e) : ofL es (l ++ [i]) = ofL es l ++ [e] := by simp [ofL, h]
theorem len_ofL (es : List Ev) (l : List Int) : (ofL es l).length ≤ l.length := List.length_filterMap_le _ _
def ac24 : AC := (.seq (.ops [⟨(some 2), none, (.mv (.c (.bool false)))⟩]) (.seq (.ops [⟨(some 3), none, (.mv (.t 0))⟩, ⟨(some 4), none, (.bin .geq (.t 3) (.c (.int .i64 1)))⟩, ⟨(some 5), none, (.mv (.t 4))⟩, ⟨(some 6), (some (5, true)), (.mv (.t 0))⟩, ⟨(some 7), (some (5, true)), (.bin .leq (.t 6) (.c (.int .i64 10)))⟩, ⟨(some 8), none, (.pick (.t 5) (.t 7) (.c (.bool false)))⟩, ⟨(some 2), none, (.mv (.t 8))⟩]) .ret))
theorem tr24 : Tryz.f24.body.bind (trCode Tryz.prog) = some (strip ac24) := by kernel_rfl
theorem spec24 (k : Int) : Spec Tryz.prog 24 [.fz (.int .i64 k)] (.fz (.bool (stateB k))) := by
  refine spec_at (n := 8) (ars := [(.t 2)]) (ac := ac24) Tryz.func24 (by kernel_rfl) (by kernel_rfl) tr24 (by kernel_rfl) ?_
  unfold ac24
  iterate 30 (all_goals (try (first
    | (with_reducible refine ite_in (fun _ => ?_) (fun _ => ?_))
    | (with_reducible refine ⟨fun _ => ?_, fun _ => ?_⟩)
    | (with_reducible refine And.intro ?_ ?_)
    | (with_reducible intro _)
    | (with_reducible exact is_in _)
    | (simp -implicitDefEqProofs only [SD, SF, SL, e_nf, reduceCtorEq, implies_true, ↓reduceIte, Nat.reduceEqDiff, Nat.reduceAdd, Nat.reduceMul, Nat.reduceSub, Nat.reduceLeDiff, Nat.reduceLT, Int.reduceLT, Int.reduceLE, Int.reduceEq, Int.reduceToNat, Int.reduceAdd, Int.reduceSub, Int.reduceNeg, Int.reduceBEq, Int.reduceBNe, Nat.reduceBEq, Int.cast_ofNat_Int, decide_true, decide_false, ne_eq, eq_self_iff_true, beq_eq_false_iff_ne, bne_iff_ne, List.replicate, stateB, *]))))
  all_goals (first | rfl | (simp_all [stateB]; done) | (simp_all [stateB]; omega))
def ac23 : AC := (.seq (.ops [⟨(some 8), none, (.mv (.c (.bool false)))⟩]) (.seq (.ops [⟨(some 9), none, (.mv (.t 0))⟩, ⟨(some 10), none, (.mv (.t 2))⟩, ⟨(some 11), none, (.bin .lss (.t 9) (.t 10))⟩, ⟨(some 12), none, (.mv (.t 11))⟩, ⟨(some 13), (some (12, false)), (.mv (.t 0))⟩, ⟨(some 14), (some (12, false)), (.mv (.t 2))⟩, ⟨(some 15), (some (12, false)), (.bin .eql (.t 13) (.t 14))⟩, ⟨(some 16), (some (12, false)), (.mv (.t 15))⟩, ⟨(some 17), (some (16, true)), (.mv (.t 1))⟩, ⟨(some 18), (some (16, true)), (.mv (.t 3))⟩, ⟨(some 19), (some (16, true)), (.bin .lss (.t 17) (.t 18))⟩, ⟨(some 20), (some (12, false)), (.pick (.t 16) (.t 19) (.c (.bool false)))⟩, ⟨(some 21), none, (.pick (.t 12) (.c (.bool true)) (.t 20))⟩, ⟨(some 8), none, (.mv (.t 21))⟩]) .ret))
theorem tr23 : Tryz.f23.body.bind (trCode Tryz.prog) = some (strip ac23) := by kernel_rfl
theorem spec23 (k : Int) (u : List UInt8) (m : Int) (v : List UInt8) : Spec Tryz.prog 23 [.fz (.int .i64 k), .fz (.str u), .fz (.int .i64 m), .fz (.str v)] (.fz (.bool (precB ⟨k, u, 0⟩ ⟨m, v, 0⟩))) := by
  refine spec_at (n := 18) (ars := [(.t 8)]) (ac := ac23) Tryz.func23 (by kernel_rfl) (by kernel_rfl) tr23 (by kernel_rfl) ?_
  unfold ac23
  iterate 30 (all_goals (try (first
    | (with_reducible refine ite_in (fun _ => ?_) (fun _ => ?_))
    | (with_reducible refine ⟨fun _ => ?_, fun _ => ?_⟩)
    | (with_reducible refine And.intro ?_ ?_)
    | (with_reducible intro _)
    | (with_reducible exact is_in _)
    | (simp -implicitDefEqProofs only [SD, SF, SL, e_nf, reduceCtorEq, implies_true, ↓reduceIte, Nat.reduceEqDiff, Nat.reduceAdd, Nat.reduceMul, Nat.reduceSub, Nat.reduceLeDiff, Nat.reduceLT, Int.reduceLT, Int.reduceLE, Int.reduceEq, Int.reduceToNat, Int.reduceAdd, Int.reduceSub, Int.reduceNeg, Int.reduceBEq, Int.reduceBNe, Nat.reduceBEq, Int.cast_ofNat_Int, decide_true, decide_false, ne_eq, eq_self_iff_true, beq_eq_false_iff_ne, bne_iff_ne, List.replicate, *]))))
  all_goals (first | (simp_all [precB]; done) | (simp_all [precB]; omega) | grind [precB])
def ac40 : AC := (.seq (.ops [⟨(some 6), none, (.mv (.c (.int .i64 0)))⟩, ⟨(some 7), none, (.mv (.c (.bool false)))⟩]) (.seq (.seq (.ops [⟨(some 8), none, (.mv (.c (.int .i64 0)))⟩]) (.block 0 (.loop (.seq (.seq (.ops [⟨(some 9), none, (.mv (.t 8))⟩, ⟨(some 10), none, (.mv (.t 0))⟩, ⟨(some 11), none, (.len (.t 10))⟩, ⟨(some 12), none, (.bin .lss (.t 9) (.t 11))⟩]) (.cond (.t 12) .skip (.exit 0))) (.seq (.block 1 (.seq (.ops [⟨(some 15), none, (.mv (.t 0))⟩, ⟨(some 16), none, (.mv (.t 8))⟩, ⟨(some 17), none, (.ix 3 (.t 15) (.t 16))⟩, ⟨(some 18), none, (.fld 0 (.t 17))⟩, ⟨(some 19), none, (.ld false 1 (.t 18))⟩, ⟨(some 20), none, (.mv (.t 1))⟩, ⟨(some 21), none, (.bin .eql (.t 19) (.t 20))⟩, ⟨(some 22), none, (.mv (.t 21))⟩, ⟨(some 23), (some (22, true)), (.mv (.t 0))⟩, ⟨(some 24), (some (22, true)), (.mv (.t 8))⟩, ⟨(some 25), (some (22, true)), (.ix 3 (.t 23) (.t 24))⟩, ⟨(some 26), (some (22, true)), (.fld 1 (.t 25))⟩, ⟨(some 27), (some (22, true)), (.ld false 1 (.t 26))⟩, ⟨(some 28), (some (22, true)), (.mv (.t 2))⟩, ⟨(some 29), (some (22, true)), (.bin .eql (.t 27) (.t 28))⟩, ⟨(some 30), none, (.pick (.t 22) (.t 29) (.c (.bool false)))⟩]) (.cond (.t 30) (.seq (.ops [⟨(some 31), none, (.mv (.t 0))⟩, ⟨(some 32), none, (.mv (.t 8))⟩, ⟨(some 33), none, (.ix 3 (.t 31) (.t 32))⟩, ⟨(some 34), none, (.fld 2 (.t 33))⟩, ⟨(some 35), none, (.ld false 1 (.t 34))⟩, ⟨(some 6), none, (.mv (.t 35))⟩, ⟨(some 7), none, (.mv (.c (.bool true)))⟩]) .ret) .skip))) (.ops [⟨(some 13), none, (.mv (.t 8))⟩, ⟨(some 14), none, (.bin .add (.t 13) (.c (.int .i64 1)))⟩, ⟨(some 8), none, (.mv (.t 14))⟩])))))) (.seq (.ops [⟨(some 6), none, (.mv (.c (.int .i64 0)))⟩, ⟨(some 7), none, (.mv (.c (.bool false)))⟩]) .ret)))
theorem tr40 : Tryz.f40.body.bind (trCode Tryz.prog) = some (strip ac40) := by kernel_rfl
theorem spec40 (l : List Ent) (k : Int) (u : List UInt8) : Spec Tryz.prog 40 [.fz (.sl 3 (l.map encEnt)), .fz (.int .i64 k), .fz (.str u)] (.fz (.tup [.int .i64 (getL l ⟨k, u, 0⟩).1, .bool (getL l ⟨k, u, 0⟩).2])) := by
  refine spec_at (n := 33) (ars := [(.t 6), (.t 7)]) (ac := ac40) Tryz.func40 (by kernel_rfl) (by kernel_rfl) tr40 (by kernel_rfl) ?_
  unfold ac40
  simp -implicitDefEqProofs only [SD, SF, SL, e_nf, reduceCtorEq, implies_true, ↓reduceIte, Nat.reduceEqDiff, Nat.reduceAdd, Nat.reduceMul, Nat.reduceSub, Nat.reduceLeDiff, Nat.reduceLT, Int.reduceLT, Int.reduceLE, Int.reduceEq, Int.reduceToNat, Int.reduceAdd, Int.reduceSub, Int.reduceNeg, Int.reduceBEq, Int.reduceBNe, Nat.reduceBEq, Int.cast_ofNat_Int, decide_true, decide_false, ne_eq, eq_self_iff_true, beq_eq_false_iff_ne, bne_iff_ne, List.replicate]
  refine loop_q (X := List Ent × List Ent × Unit) (fun n x => l = x.1 ++ x.2.1 ∧ n = x.2.1.length ∧ (getL l ⟨k, u, 0⟩ = getL x.2.1 ⟨k, u, 0⟩)) (fun x => [(8, .int .i64 x.1.length)]) (fun _ => []) [6, 7, 9, 10, 11, 12, 13, 14, 15, 16, 17, 18, 19, 20, 21, 22, 23, 24, 25, 26, 27, 28, 29, 30, 31, 32, 33, 34, 35] []  (l).length ([], l, ()) ⟨rfl, rfl, by rfl⟩ ?_ ?_
  · simp -implicitDefEqProofs only [SD, SF, SL, e_nf, reduceCtorEq, implies_true, ↓reduceIte, Nat.reduceEqDiff, Nat.reduceAdd, Nat.reduceMul, Nat.reduceSub, Nat.reduceLeDiff, Nat.reduceLT, Int.reduceLT, Int.reduceLE, Int.reduceEq, Int.reduceToNat, Int.reduceAdd, Int.reduceSub, Int.reduceNeg, Int.reduceBEq, Int.reduceBNe, Nat.reduceBEq, Int.cast_ofNat_Int, decide_true, decide_false, ne_eq, eq_self_iff_true, beq_eq_false_iff_ne, bne_iff_ne, List.replicate, encEnt] <;> simp
  · rintro n ⟨pre, rest, a⟩ ⟨he, rfl, hI⟩
    dsimp only at he hI
    cases rest with
    | nil =>
      obtain rfl : l = pre := by simpa using he
      clear he
      have hlt : ¬ (((l).length : Int) < ((l).length : Int)) := Int.lt_irrefl _
      rw [getL_nil] at hI
      iterate 30 (all_goals (try (first
        | (with_reducible refine ite_in (fun _ => ?_) (fun _ => ?_))
        | (with_reducible refine ⟨fun _ => ?_, fun _ => ?_⟩)
        | (with_reducible refine And.intro ?_ ?_)
        | (with_reducible intro _)
        | (with_reducible exact is_in _)
        | (simp -implicitDefEqProofs only [SD, SF, SL, e_nf, reduceCtorEq, implies_true, ↓reduceIte, Nat.reduceEqDiff, Nat.reduceAdd, Nat.reduceMul, Nat.reduceSub, Nat.reduceLeDiff, Nat.reduceLT, Int.reduceLT, Int.reduceLE, Int.reduceEq, Int.reduceToNat, Int.reduceAdd, Int.reduceSub, Int.reduceNeg, Int.reduceBEq, Int.reduceBNe, Nat.reduceBEq, Int.cast_ofNat_Int, decide_true, decide_false, ne_eq, eq_self_iff_true, beq_eq_false_iff_ne, bne_iff_ne, List.replicate, encEnt, *]))))
      all_goals (first | (rw [hI]; done) | (rw [hI]; rfl) | (simp_all; done) | trace_state)

    | cons x rest =>
      have hlt := cut_lt he
      have hx := cutD encEnt he
      simp only [encEnt] at hx
      simp -implicitDefEqProofs only [SD, SF, SL, e_nf, reduceCtorEq, implies_true, ↓reduceIte, Nat.reduceEqDiff, Nat.reduceAdd, Nat.reduceMul, Nat.reduceSub, Nat.reduceLeDiff, Nat.reduceLT, Int.reduceLT, Int.reduceLE, Int.reduceEq, Int.reduceToNat, Int.reduceAdd, Int.reduceSub, Int.reduceNeg, Int.reduceBEq, Int.reduceBNe, Nat.reduceBEq, Int.cast_ofNat_Int, decide_true, decide_false, ne_eq, eq_self_iff_true, beq_eq_false_iff_ne, bne_iff_ne, List.replicate, encEnt, hlt]
      intro hl
      have hw := wrap_len (n := pre.length) (m := (l).length) (cut_lt' he) (by simpa using hl)
      replace he := Hd.mk he
      have hgc := getL_cons x rest ⟨k, u, 0⟩
      have hkk : isK ⟨k, u, 0⟩ x = (decide (x.kind = k) && decide (x.key = u)) := rfl
      by_cases h1 : x.kind = k
      all_goals by_cases h2 : x.key = u
      all_goals simp only [h1, h2, decide_true, decide_false, Bool.and_true, Bool.and_false, Bool.false_and, Bool.true_and] at hkk
      all_goals first | rw [hkk, if_pos rfl] at hgc | rw [hkk, if_neg Bool.false_ne_true] at hgc
      all_goals rw [hgc] at hI
      all_goals clear hgc hkk
      iterate 30 (all_goals (try (first
        | ((with_reducible refine back_in rest.length [6, 7, 9, 10, 11, 12, 13, 14, 15, 16, 17, 18, 19, 20, 21, 22, 23, 24, 25, 26, 27, 28, 29, 30, 31, 32, 33, 34, 35] [] (pre ++ [x], rest, a) ?_ ⟨?_, ?_, ?_⟩ ?_)
           · simp
           · exact cut_snoc he.out
           · rfl
           · first | rfl | assumption
           · first | (simp -implicitDefEqProofs only [SD, SF, SL, e_nf, reduceCtorEq, implies_true, ↓reduceIte, Nat.reduceEqDiff, Nat.reduceAdd, Nat.reduceMul, Nat.reduceSub, Nat.reduceLeDiff, Nat.reduceLT, Int.reduceLT, Int.reduceLE, Int.reduceEq, Int.reduceToNat, Int.reduceAdd, Int.reduceSub, Int.reduceNeg, Int.reduceBEq, Int.reduceBNe, Nat.reduceBEq, Int.cast_ofNat_Int, decide_true, decide_false, ne_eq, eq_self_iff_true, beq_eq_false_iff_ne, bne_iff_ne, List.replicate, encEnt] <;> simp <;> done) | (simp -implicitDefEqProofs only [SD, SF, SL, e_nf, reduceCtorEq, implies_true, ↓reduceIte, Nat.reduceEqDiff, Nat.reduceAdd, Nat.reduceMul, Nat.reduceSub, Nat.reduceLeDiff, Nat.reduceLT, Int.reduceLT, Int.reduceLE, Int.reduceEq, Int.reduceToNat, Int.reduceAdd, Int.reduceSub, Int.reduceNeg, Int.reduceBEq, Int.reduceBNe, Nat.reduceBEq, Int.cast_ofNat_Int, decide_true, decide_false, ne_eq, eq_self_iff_true, beq_eq_false_iff_ne, bne_iff_ne, List.replicate, encEnt, *] <;> simp_all <;> done))
        | (with_reducible refine ite_in (fun _ => ?_) (fun _ => ?_))
        | (with_reducible refine ⟨fun _ => ?_, fun _ => ?_⟩)
        | (with_reducible refine And.intro ?_ ?_)
        | (with_reducible intro _)
        | (with_reducible exact is_in _)
        | (simp -implicitDefEqProofs only [SD, SF, SL, e_nf, reduceCtorEq, implies_true, ↓reduceIte, Nat.reduceEqDiff, Nat.reduceAdd, Nat.reduceMul, Nat.reduceSub, Nat.reduceLeDiff, Nat.reduceLT, Int.reduceLT, Int.reduceLE, Int.reduceEq, Int.reduceToNat, Int.reduceAdd, Int.reduceSub, Int.reduceNeg, Int.reduceBEq, Int.reduceBNe, Nat.reduceBEq, Int.cast_ofNat_Int, decide_true, decide_false, ne_eq, eq_self_iff_true, beq_eq_false_iff_ne, bne_iff_ne, List.replicate, encEnt, *]))))
      all_goals (first | (rw [hI]; done) | (rw [hI]; rfl) | (simp_all; done) | trace_state)

end Go.Proofs.YtcolebkklojccaaGreat.E

namespace Go.Proofs.YtcolebkklojccaaGreat.E
open Go
set_option maxHeartbeats 4000000
set_option maxRecDepth 100000
set_option linter.unusedSimpArgs false
set_option linter.unusedVariables false
attribute [local congr] c_wp c_ops c_op c_opS c_run c_runS c_dt c_seq c_blk c_loop c_S c_put c_bind c_mv c_pick c_nt c_ng c_bin c_binI c_binS c_beq c_B c_eqa c_hd c_cells c_blkK c_box c_vec c_mp c_nck c_mks c_appn c_mkm c_mput c_mlk c_mrm c_take c_ld c_ldF c_cellsK c_st c_fld c_fldv c_ix c_ixp c_ixv c_ixs c_sub c_subs c_len c_lens c_src c_dst c_ow c_app c_ext c_mm c_conv c_str c_isn c_fill c_rows c_boxo c_frz c_frzO c_frzA c_frzV c_spec c_specO c_opsP c_opP c_runP c_specP c_Z c_qretP c_fz c_fn c_gv c_cond c_res1 c_resL c_ret c_qret c_ite c_unr c_nx c_bk c_cut c_is
attribute [local irreducible] dwp

theorem loop_r {P : Program} {Q : AE → DS → Prop} {X : Type} {c : AC} {E : List DV} {M : Mem} (R : Nat → X → Prop) (pe : X → List (Nat × DV)) (pm : X → List (Nat × Blk)) (ts0 ks ks0 : List Nat) (n0 : Nat) (x0 : X) (hR : R n0 x0)
    (h0 : forget ts0 ks0 ⟨E, M⟩ = ⟨pE (pe x0) (forgetE ts0 E), pM (pm x0) (msort (mdels ks M))⟩)
    (hr : ∀ n x, R n x → dwp P c ⟨pE (pe x) (forgetE ts0 E), pM (pm x) (msort (mdels ks M))⟩
      (kLoop (kBk R (fun x => ⟨pE (pe x) (forgetE ts0 E), pM (pm x) (msort (mdels ks M))⟩) n) Q)) : dwp P (.loop c) ⟨E, M⟩ Q := by
  unfold dwp
  refine ⟨fun n s => ∃ x, R n x ∧ s = ⟨pE (pe x) (forgetE ts0 E), pM (pm x) (msort (mdels ks M))⟩, n0, ts0, ks0, ⟨x0, hR, h0⟩, ?_⟩
  rintro n s ⟨x, hx, rfl⟩
  exact hr n x hx
def ac25 : AC := (.seq (.ops [⟨(some 4), none, (.mv (.c .e0))⟩]) (.seq (.ops [⟨(some 10), none, (.mv (.t 1))⟩, ⟨(some 11), none, (.len (.t 10))⟩, ⟨(some 12), none, (.mks 46 29 376 (.c (.int .i64 0)) (.t 11))⟩, ⟨(some 5), none, (.mv (.t 12))⟩]) (.seq (.seq (.ops [⟨(some 13), none, (.mv (.t 1))⟩, ⟨(some 14), none, (.len (.t 13))⟩, ⟨(some 15), none, (.mv (.c (.int .i64 0)))⟩]) (.block 0 (.loop (.seq (.ops [⟨(some 16), none, (.bin .lss (.t 15) (.t 14))⟩]) (.seq (.cond (.t 16) .skip (.exit 0)) (.seq (.block 1 (.seq (.ops [⟨(some 17), none, (.ix 1 (.t 13) (.t 15))⟩, ⟨(some 18), none, (.ld false 1 (.t 17))⟩, ⟨(some 7), none, (.mv (.t 18))⟩]) (.seq (.ops [⟨(some 20), none, (.mv (.t 0))⟩, ⟨(some 21), none, (.mv (.t 7))⟩, ⟨(some 22), none, (.call false 29 [(.t 20), (.t 21)])⟩, ⟨(some 19), none, (.mv (.t 22))⟩, ⟨(some 23), none, (.ext (.t 19) 0)⟩, ⟨(some 24), none, (.ext (.t 19) 1)⟩, ⟨(some 8), none, (.alloc [(.int .i64 0), (.str []), (.str []), (.int .i64 0), (.bool false), (.str []), (.int .i64 0), (.int .i64 0), .e0, .e0, (.str []), (.int .i64 0), (.int .i64 0), (.bool false), (.str []), .e0, .e0, .e0, .e0, (.int .i64 0), (.int .i64 0), (.int .i64 0), (.int .i64 0), (.int .i64 0), (.int .i64 0), (.int .i64 0), (.int .i64 0), (.str []), (.int .i64 0)])⟩, ⟨none, none, (.sto 29 (.t 8) (.t 23))⟩, ⟨(some 9), none, (.mv (.t 24))⟩]) (.seq (.ops [⟨(some 25), none, (.mv (.t 9))⟩]) (.cond (.t 25) (.ops [⟨(some 26), none, (.mv (.t 5))⟩, ⟨(some 27), none, (.ld true 29 (.t 8))⟩, ⟨(some 28), none, (.buildSl 46 29 1 [(.int .i64 0), (.str []), (.str []), (.int .i64 0), (.bool false), (.str []), (.int .i64 0), (.int .i64 0), .e0, .e0, (.str []), (.int .i64 0), (.int .i64 0), (.bool false), (.str []), .e0, .e0, .e0, .e0, (.int .i64 0), (.int .i64 0), (.int .i64 0), (.int .i64 0), (.int .i64 0), (.int .i64 0), (.int .i64 0), (.int .i64 0), (.str []), (.int .i64 0)] [(0, (.t 27))])⟩, ⟨(some 29), none, (.app 46 29 376 (.t 26) (.t 28))⟩, ⟨(some 5), none, (.mv (.t 29))⟩]) .skip))))) (.ops [⟨(some 30), none, (.bin .add (.t 15) (.c (.int .i64 1)))⟩, ⟨(some 15), none, (.mv (.t 30))⟩]))))))) (.seq (.ops [⟨(some 31), none, (.mv (.t 5))⟩, ⟨(some 4), none, (.mv (.t 31))⟩]) .ret))))
theorem tr25 : Tryz.f25.body.bind (trCode Tryz.prog) = some (strip ac25) := by kernel_rfl
theorem spec25 (es : List Ev) (l : List Int) (hb : l.length ≤ 1000) : Spec Tryz.prog 25 [.fz (.sl 29 (es.map encEv)), .fz (.sl 1 (l.map encN))] (.fz (.sl 29 ((ofL es l).map encEv))) := by
  refine spec_at (n := 30) (ars := [(.t 4)]) (ac := ac25) Tryz.func25 (by kernel_rfl) (by kernel_rfl) tr25 (by kernel_rfl) ?_
  unfold ac25
  have hm1 : l.length ≤ maxLen := by simp only [maxLen]; omega
  have hm2 : l.length * 376 ≤ 140737488355328 := by omega
  have hm3 : (l.length : Int) ≤ 4294967296 := by omega
  iterate 8 (all_goals (try (first
    | (with_reducible refine ite_in (fun _ => ?_) (fun _ => ?_))
    | (with_reducible refine ⟨fun _ => ?_, fun _ => ?_⟩)
    | (with_reducible refine And.intro ?_ ?_)
    | (with_reducible intro _)
    | (with_reducible exact is_in _)
    | (simp -implicitDefEqProofs only [SD, SF, SL, e_nf, reduceCtorEq, implies_true, ↓reduceIte, Nat.reduceEqDiff, Nat.reduceAdd, Nat.reduceMul, Nat.reduceSub, Nat.reduceLeDiff, Nat.reduceLT, Int.reduceLT, Int.reduceLE, Int.reduceEq, Int.reduceToNat, Int.reduceAdd, Int.reduceSub, Int.reduceNeg, Int.reduceBEq, Int.reduceBNe, Nat.reduceBEq, Int.cast_ofNat_Int, decide_true, decide_false, ne_eq, eq_self_iff_true, beq_eq_false_iff_ne, bne_iff_ne, List.replicate, List.length_map, *]))))
  all_goals try omega
  refine loop_r (X := List Int × List Int × (DV × List (Nat × Blk))) (fun n x => l = x.1 ++ x.2.1 ∧ n = x.2.1.length ∧ ((ofL es x.1 = [] ∧ x.2.2 = (DV.ow 12, [(12, Blk.vec 46 29 ([]))])) ∨ x.2.2 = (DV.ow 29, [(29, Blk.vec 46 29 ((ofL es x.1).map encEv))]))) (fun x => [(15, .int .i64 x.1.length), (5, x.2.2.1)]) (fun x => x.2.2.2) [7, 8, 9, 16, 17, 18, 19, 20, 21, 22, 23, 24, 25, 26, 27, 28, 29, 30] [8, 28, 29, 12] [8, 28] (l).length ([], l, (DV.ow 12, [(12, Blk.vec 46 29 ([]))])) ⟨rfl, rfl, by exact .inl ⟨rfl, rfl⟩⟩ ?_ ?_
  · simp -implicitDefEqProofs only [SD, SF, SL, e_nf, reduceCtorEq, implies_true, ↓reduceIte, Nat.reduceEqDiff, Nat.reduceAdd, Nat.reduceMul, Nat.reduceSub, Nat.reduceLeDiff, Nat.reduceLT, Int.reduceLT, Int.reduceLE, Int.reduceEq, Int.reduceToNat, Int.reduceAdd, Int.reduceSub, Int.reduceNeg, Int.reduceBEq, Int.reduceBNe, Nat.reduceBEq, Int.cast_ofNat_Int, decide_true, decide_false, ne_eq, eq_self_iff_true, beq_eq_false_iff_ne, bne_iff_ne, List.replicate, encEv, encN, zE, evOf_n, evOf_s, isS_n, isS_s] <;> simp
  · rintro n ⟨pre, rest, a⟩ ⟨he, rfl, hI⟩
    dsimp only at he hI
    cases rest with
    | nil =>
      obtain rfl : l = pre := by simpa using he
      clear he
      have hlt : ¬ (((l).length : Int) < ((l).length : Int)) := Int.lt_irrefl _
      rcases hI with ⟨hl0, rfl⟩ | rfl
      all_goals try replace hl0 := Hd.mk hl0
      iterate 60 (all_goals (try (first
        | ((with_reducible refine of_kSpec ?_); refine call_fz (spec29 es x) rfl ?_)
        | (with_reducible refine ite_in (fun _ => ?_) (fun _ => ?_))
        | (with_reducible refine ⟨fun _ => ?_, fun _ => ?_⟩)
        | (with_reducible refine And.intro ?_ ?_)
        | (with_reducible intro _)
        | (with_reducible exact is_in _)
        | (simp -implicitDefEqProofs only [SD, SF, SL, e_nf, reduceCtorEq, implies_true, ↓reduceIte, Nat.reduceEqDiff, Nat.reduceAdd, Nat.reduceMul, Nat.reduceSub, Nat.reduceLeDiff, Nat.reduceLT, Int.reduceLT, Int.reduceLE, Int.reduceEq, Int.reduceToNat, Int.reduceAdd, Int.reduceSub, Int.reduceNeg, Int.reduceBEq, Int.reduceBNe, Nat.reduceBEq, Int.cast_ofNat_Int, decide_true, decide_false, ne_eq, eq_self_iff_true, beq_eq_false_iff_ne, bne_iff_ne, List.replicate, encEv, encN, zE, evOf_n, evOf_s, isS_n, isS_s, *]))))
      all_goals (first | decide | (simp only [maxLen, List.length_append, List.length_map, List.length_cons, List.length_nil] <;> omega) | omega | (rw [hl0.out]; first | exact .inl rfl | rfl | simp) | (simp_all; done) | trace_state)

    | cons x rest =>
      have hlt := cut_lt he
      have hx := cutD encN he
      simp only [encN] at hx
      have hw := wrap_len (n := pre.length) (m := (l).length) (cut_lt' he) (by simp only [maxLen]; omega)
      replace he := Hd.mk he
      have hz1 := cut_lt' he.out
      have hlo := len_ofL es pre
      have hz2 : (ofL es pre).length + 1 ≤ maxLen := by simp only [maxLen]; omega
      have hz3 : ((ofL es pre).length + 1) * 376 ≤ 140737488355328 := by omega
      cases hf : es.find? (hasId x)
      case' none => have hsn := ofL_none (l := pre) hf
      case' some val => have hsn := ofL_some (l := pre) hf
      all_goals rcases hI with ⟨hp0, rfl⟩ | rfl
      all_goals try replace hp0 := Hd.mk hp0
      iterate 60 (all_goals (try (first
        | (have := hp0; (with_reducible refine back_in rest.length [7, 8, 9, 16, 17, 18, 19, 20, 21, 22, 23, 24, 25, 26, 27, 28, 29, 30] [8, 28] (pre ++ [x], rest, (DV.ow 12, [(12, Blk.vec 46 29 ([]))])) ?_ ⟨?_, ?_, ?_⟩ ?_)
           · simp
           · exact cut_snoc he.out
           · rfl
           · first | (left; refine ⟨?_, rfl⟩; rw [hsn]; exact hp0.out) | (right; rw [hsn]; done) | (right; rw [hsn, List.map_append]; rfl) | (right; rw [hsn, hp0.out]; rfl)
           · first | (simp -implicitDefEqProofs only [SD, SF, SL, e_nf, reduceCtorEq, implies_true, ↓reduceIte, Nat.reduceEqDiff, Nat.reduceAdd, Nat.reduceMul, Nat.reduceSub, Nat.reduceLeDiff, Nat.reduceLT, Int.reduceLT, Int.reduceLE, Int.reduceEq, Int.reduceToNat, Int.reduceAdd, Int.reduceSub, Int.reduceNeg, Int.reduceBEq, Int.reduceBNe, Nat.reduceBEq, Int.cast_ofNat_Int, decide_true, decide_false, ne_eq, eq_self_iff_true, beq_eq_false_iff_ne, bne_iff_ne, List.replicate, encEv, encN, zE, evOf_n, evOf_s, isS_n, isS_s] <;> simp <;> done) | (simp -implicitDefEqProofs only [SD, SF, SL, e_nf, reduceCtorEq, implies_true, ↓reduceIte, Nat.reduceEqDiff, Nat.reduceAdd, Nat.reduceMul, Nat.reduceSub, Nat.reduceLeDiff, Nat.reduceLT, Int.reduceLT, Int.reduceLE, Int.reduceEq, Int.reduceToNat, Int.reduceAdd, Int.reduceSub, Int.reduceNeg, Int.reduceBEq, Int.reduceBNe, Nat.reduceBEq, Int.cast_ofNat_Int, decide_true, decide_false, ne_eq, eq_self_iff_true, beq_eq_false_iff_ne, bne_iff_ne, List.replicate, encEv, encN, zE, evOf_n, evOf_s, isS_n, isS_s, *] <;> simp_all <;> done))
        | ((with_reducible refine back_in rest.length [7, 8, 9, 16, 17, 18, 19, 20, 21, 22, 23, 24, 25, 26, 27, 28, 29, 30] [8, 28] (pre ++ [x], rest, (DV.ow 29, [(29, Blk.vec 46 29 ((ofL es pre).map encEv))])) ?_ ⟨?_, ?_, ?_⟩ ?_)
           · simp
           · exact cut_snoc he.out
           · rfl
           · first | (left; refine ⟨?_, rfl⟩; rw [hsn]; exact hp0.out) | (right; rw [hsn]; done) | (right; rw [hsn, List.map_append]; rfl) | (right; rw [hsn, hp0.out]; rfl)
           · first | (simp -implicitDefEqProofs only [SD, SF, SL, e_nf, reduceCtorEq, implies_true, ↓reduceIte, Nat.reduceEqDiff, Nat.reduceAdd, Nat.reduceMul, Nat.reduceSub, Nat.reduceLeDiff, Nat.reduceLT, Int.reduceLT, Int.reduceLE, Int.reduceEq, Int.reduceToNat, Int.reduceAdd, Int.reduceSub, Int.reduceNeg, Int.reduceBEq, Int.reduceBNe, Nat.reduceBEq, Int.cast_ofNat_Int, decide_true, decide_false, ne_eq, eq_self_iff_true, beq_eq_false_iff_ne, bne_iff_ne, List.replicate, encEv, encN, zE, evOf_n, evOf_s, isS_n, isS_s] <;> simp <;> done) | (simp -implicitDefEqProofs only [SD, SF, SL, e_nf, reduceCtorEq, implies_true, ↓reduceIte, Nat.reduceEqDiff, Nat.reduceAdd, Nat.reduceMul, Nat.reduceSub, Nat.reduceLeDiff, Nat.reduceLT, Int.reduceLT, Int.reduceLE, Int.reduceEq, Int.reduceToNat, Int.reduceAdd, Int.reduceSub, Int.reduceNeg, Int.reduceBEq, Int.reduceBNe, Nat.reduceBEq, Int.cast_ofNat_Int, decide_true, decide_false, ne_eq, eq_self_iff_true, beq_eq_false_iff_ne, bne_iff_ne, List.replicate, encEv, encN, zE, evOf_n, evOf_s, isS_n, isS_s, *] <;> simp_all <;> done))
        | ((with_reducible refine back_in rest.length [7, 8, 9, 16, 17, 18, 19, 20, 21, 22, 23, 24, 25, 26, 27, 28, 29, 30] [8, 28] (pre ++ [x], rest, (DV.ow 29, [(29, Blk.vec 46 29 ((ofL es pre).map encEv ++ [encEv val]))])) ?_ ⟨?_, ?_, ?_⟩ ?_)
           · simp
           · exact cut_snoc he.out
           · rfl
           · first | (left; refine ⟨?_, rfl⟩; rw [hsn]; exact hp0.out) | (right; rw [hsn]; done) | (right; rw [hsn, List.map_append]; rfl) | (right; rw [hsn, hp0.out]; rfl)
           · first | (simp -implicitDefEqProofs only [SD, SF, SL, e_nf, reduceCtorEq, implies_true, ↓reduceIte, Nat.reduceEqDiff, Nat.reduceAdd, Nat.reduceMul, Nat.reduceSub, Nat.reduceLeDiff, Nat.reduceLT, Int.reduceLT, Int.reduceLE, Int.reduceEq, Int.reduceToNat, Int.reduceAdd, Int.reduceSub, Int.reduceNeg, Int.reduceBEq, Int.reduceBNe, Nat.reduceBEq, Int.cast_ofNat_Int, decide_true, decide_false, ne_eq, eq_self_iff_true, beq_eq_false_iff_ne, bne_iff_ne, List.replicate, encEv, encN, zE, evOf_n, evOf_s, isS_n, isS_s] <;> simp <;> done) | (simp -implicitDefEqProofs only [SD, SF, SL, e_nf, reduceCtorEq, implies_true, ↓reduceIte, Nat.reduceEqDiff, Nat.reduceAdd, Nat.reduceMul, Nat.reduceSub, Nat.reduceLeDiff, Nat.reduceLT, Int.reduceLT, Int.reduceLE, Int.reduceEq, Int.reduceToNat, Int.reduceAdd, Int.reduceSub, Int.reduceNeg, Int.reduceBEq, Int.reduceBNe, Nat.reduceBEq, Int.cast_ofNat_Int, decide_true, decide_false, ne_eq, eq_self_iff_true, beq_eq_false_iff_ne, bne_iff_ne, List.replicate, encEv, encN, zE, evOf_n, evOf_s, isS_n, isS_s, *] <;> simp_all <;> done))
        | (have := hp0; (with_reducible refine back_in rest.length [7, 8, 9, 16, 17, 18, 19, 20, 21, 22, 23, 24, 25, 26, 27, 28, 29, 30] [8, 28] (pre ++ [x], rest, (DV.ow 29, [(29, Blk.vec 46 29 ([encEv val]))])) ?_ ⟨?_, ?_, ?_⟩ ?_)
           · simp
           · exact cut_snoc he.out
           · rfl
           · first | (left; refine ⟨?_, rfl⟩; rw [hsn]; exact hp0.out) | (right; rw [hsn]; done) | (right; rw [hsn, List.map_append]; rfl) | (right; rw [hsn, hp0.out]; rfl)
           · first | (simp -implicitDefEqProofs only [SD, SF, SL, e_nf, reduceCtorEq, implies_true, ↓reduceIte, Nat.reduceEqDiff, Nat.reduceAdd, Nat.reduceMul, Nat.reduceSub, Nat.reduceLeDiff, Nat.reduceLT, Int.reduceLT, Int.reduceLE, Int.reduceEq, Int.reduceToNat, Int.reduceAdd, Int.reduceSub, Int.reduceNeg, Int.reduceBEq, Int.reduceBNe, Nat.reduceBEq, Int.cast_ofNat_Int, decide_true, decide_false, ne_eq, eq_self_iff_true, beq_eq_false_iff_ne, bne_iff_ne, List.replicate, encEv, encN, zE, evOf_n, evOf_s, isS_n, isS_s] <;> simp <;> done) | (simp -implicitDefEqProofs only [SD, SF, SL, e_nf, reduceCtorEq, implies_true, ↓reduceIte, Nat.reduceEqDiff, Nat.reduceAdd, Nat.reduceMul, Nat.reduceSub, Nat.reduceLeDiff, Nat.reduceLT, Int.reduceLT, Int.reduceLE, Int.reduceEq, Int.reduceToNat, Int.reduceAdd, Int.reduceSub, Int.reduceNeg, Int.reduceBEq, Int.reduceBNe, Nat.reduceBEq, Int.cast_ofNat_Int, decide_true, decide_false, ne_eq, eq_self_iff_true, beq_eq_false_iff_ne, bne_iff_ne, List.replicate, encEv, encN, zE, evOf_n, evOf_s, isS_n, isS_s, *] <;> simp_all <;> done))
        | ((with_reducible refine of_kSpec ?_); refine call_fz (spec29 es x) rfl ?_)
        | (with_reducible refine ite_in (fun _ => ?_) (fun _ => ?_))
        | (with_reducible refine ⟨fun _ => ?_, fun _ => ?_⟩)
        | (with_reducible refine And.intro ?_ ?_)
        | (with_reducible intro _)
        | (with_reducible exact is_in _)
        | (simp -implicitDefEqProofs only [SD, SF, SL, e_nf, reduceCtorEq, implies_true, ↓reduceIte, Nat.reduceEqDiff, Nat.reduceAdd, Nat.reduceMul, Nat.reduceSub, Nat.reduceLeDiff, Nat.reduceLT, Int.reduceLT, Int.reduceLE, Int.reduceEq, Int.reduceToNat, Int.reduceAdd, Int.reduceSub, Int.reduceNeg, Int.reduceBEq, Int.reduceBNe, Nat.reduceBEq, Int.cast_ofNat_Int, decide_true, decide_false, ne_eq, eq_self_iff_true, beq_eq_false_iff_ne, bne_iff_ne, List.replicate, encEv, encN, zE, evOf_n, evOf_s, isS_n, isS_s, *]))))
      all_goals (first | decide | (simp only [maxLen, List.length_append, List.length_map, List.length_cons, List.length_nil] <;> omega) | omega | (rw [hl0.out]; first | exact .inl rfl | rfl | simp) | (simp_all; done) | trace_state)
def ac39 : AC := (.seq (.ops [⟨(some 4), none, (.mv (.c .e0))⟩]) (.seq (.ops [⟨(some 5), none, (.mv (.c .e0))⟩]) (.seq (.seq (.ops [⟨(some 6), none, (.mv (.c (.int .i64 0)))⟩]) (.block 0 (.loop (.seq (.seq (.ops [⟨(some 9), none, (.mv (.t 6))⟩, ⟨(some 10), none, (.mv (.t 1))⟩, ⟨(some 11), none, (.len (.t 10))⟩, ⟨(some 12), none, (.bin .lss (.t 9) (.t 11))⟩]) (.cond (.t 12) .skip (.exit 0))) (.seq (.block 1 (.seq (.ops [⟨(some 16), none, (.mv (.t 0))⟩, ⟨(some 17), none, (.mv (.t 1))⟩, ⟨(some 18), none, (.mv (.t 6))⟩, ⟨(some 19), none, (.ix 1 (.t 17) (.t 18))⟩, ⟨(some 20), none, (.ld false 1 (.t 19))⟩, ⟨(some 21), none, (.call false 17 [(.t 16), (.t 20)])⟩, ⟨(some 15), none, (.mv (.t 21))⟩, ⟨(some 22), none, (.ext (.t 15) 0)⟩, ⟨(some 23), none, (.ext (.t 15) 1)⟩, ⟨(some 7), none, (.alloc [(.int .i64 0), (.str []), (.str []), (.int .i64 0), (.bool false), (.str []), (.int .i64 0), (.int .i64 0), .e0, .e0, (.str []), (.int .i64 0), (.int .i64 0), (.bool false), (.str []), .e0, .e0, .e0, .e0, (.int .i64 0), (.int .i64 0), (.int .i64 0), (.int .i64 0), (.int .i64 0), (.int .i64 0), (.int .i64 0), (.int .i64 0), (.str []), (.int .i64 0)])⟩, ⟨none, none, (.sto 29 (.t 7) (.t 22))⟩, ⟨(some 8), none, (.mv (.t 23))⟩]) (.seq (.ops [⟨(some 24), none, (.mv (.t 8))⟩]) (.cond (.t 24) (.ops [⟨(some 25), none, (.mv (.t 5))⟩, ⟨(some 26), none, (.ld true 29 (.t 7))⟩, ⟨(some 27), none, (.buildSl 46 29 1 [(.int .i64 0), (.str []), (.str []), (.int .i64 0), (.bool false), (.str []), (.int .i64 0), (.int .i64 0), .e0, .e0, (.str []), (.int .i64 0), (.int .i64 0), (.bool false), (.str []), .e0, .e0, .e0, .e0, (.int .i64 0), (.int .i64 0), (.int .i64 0), (.int .i64 0), (.int .i64 0), (.int .i64 0), (.int .i64 0), (.int .i64 0), (.str []), (.int .i64 0)] [(0, (.t 26))])⟩, ⟨(some 28), none, (.app 46 29 376 (.t 25) (.t 27))⟩, ⟨(some 5), none, (.mv (.t 28))⟩]) .skip)))) (.ops [⟨(some 13), none, (.mv (.t 6))⟩, ⟨(some 14), none, (.bin .add (.t 13) (.c (.int .i64 1)))⟩, ⟨(some 6), none, (.mv (.t 14))⟩])))))) (.seq (.ops [⟨(some 29), none, (.mv (.t 5))⟩, ⟨(some 4), none, (.mv (.t 29))⟩]) .ret))))
theorem tr39 : Tryz.f39.body.bind (trCode Tryz.prog) = some (strip ac39) := by kernel_rfl
theorem spec39 (es : List Ev) (l : List Int) (hb : l.length ≤ 1000) : Spec Tryz.prog 39 [.fz (.sl 29 (es.map encEv)), .fz (.sl 1 (l.map encN))] (.fz (.sl 29 ((ofL es l).map encEv))) := by
  refine spec_at (n := 28) (ars := [(.t 4)]) (ac := ac39) Tryz.func39 (by kernel_rfl) (by kernel_rfl) tr39 (by kernel_rfl) ?_
  unfold ac39
  iterate 8 (all_goals (try (first
    | (with_reducible refine ite_in (fun _ => ?_) (fun _ => ?_))
    | (with_reducible refine ⟨fun _ => ?_, fun _ => ?_⟩)
    | (with_reducible refine And.intro ?_ ?_)
    | (with_reducible intro _)
    | (with_reducible exact is_in _)
    | (simp -implicitDefEqProofs only [SD, SF, SL, e_nf, reduceCtorEq, implies_true, ↓reduceIte, Nat.reduceEqDiff, Nat.reduceAdd, Nat.reduceMul, Nat.reduceSub, Nat.reduceLeDiff, Nat.reduceLT, Int.reduceLT, Int.reduceLE, Int.reduceEq, Int.reduceToNat, Int.reduceAdd, Int.reduceSub, Int.reduceNeg, Int.reduceBEq, Int.reduceBNe, Nat.reduceBEq, Int.cast_ofNat_Int, decide_true, decide_false, ne_eq, eq_self_iff_true, beq_eq_false_iff_ne, bne_iff_ne, List.replicate, List.length_map, *]))))
  refine loop_r (X := List Int × List Int × (DV × List (Nat × Blk))) (fun n x => l = x.1 ++ x.2.1 ∧ n = x.2.1.length ∧ ((ofL es x.1 = [] ∧ x.2.2 = (DV.e0, [])) ∨ x.2.2 = (DV.ow 28, [(28, Blk.vec 46 29 ((ofL es x.1).map encEv))]))) (fun x => [(6, .int .i64 x.1.length), (5, x.2.2.1)]) (fun x => x.2.2.2) [7, 8, 9, 10, 11, 12, 13, 14, 15, 16, 17, 18, 19, 20, 21, 22, 23, 24, 25, 26, 27, 28] [7, 27, 28] [7, 27] (l).length ([], l, (DV.e0, [])) ⟨rfl, rfl, by exact .inl ⟨rfl, rfl⟩⟩ ?_ ?_
  · simp -implicitDefEqProofs only [SD, SF, SL, e_nf, reduceCtorEq, implies_true, ↓reduceIte, Nat.reduceEqDiff, Nat.reduceAdd, Nat.reduceMul, Nat.reduceSub, Nat.reduceLeDiff, Nat.reduceLT, Int.reduceLT, Int.reduceLE, Int.reduceEq, Int.reduceToNat, Int.reduceAdd, Int.reduceSub, Int.reduceNeg, Int.reduceBEq, Int.reduceBNe, Nat.reduceBEq, Int.cast_ofNat_Int, decide_true, decide_false, ne_eq, eq_self_iff_true, beq_eq_false_iff_ne, bne_iff_ne, List.replicate, encEv, encN, zE, evOf_n, evOf_s, isS_n, isS_s] <;> simp
  · rintro n ⟨pre, rest, a⟩ ⟨he, rfl, hI⟩
    dsimp only at he hI
    cases rest with
    | nil =>
      obtain rfl : l = pre := by simpa using he
      clear he
      have hlt : ¬ (((l).length : Int) < ((l).length : Int)) := Int.lt_irrefl _
      rcases hI with ⟨hl0, rfl⟩ | rfl
      all_goals try replace hl0 := Hd.mk hl0
      iterate 60 (all_goals (try (first
        | ((with_reducible refine of_kSpec ?_); refine call_fz (spec17 es x) rfl ?_)
        | (with_reducible refine ite_in (fun _ => ?_) (fun _ => ?_))
        | (with_reducible refine ⟨fun _ => ?_, fun _ => ?_⟩)
        | (with_reducible refine And.intro ?_ ?_)
        | (with_reducible intro _)
        | (with_reducible exact is_in _)
        | (simp -implicitDefEqProofs only [SD, SF, SL, e_nf, reduceCtorEq, implies_true, ↓reduceIte, Nat.reduceEqDiff, Nat.reduceAdd, Nat.reduceMul, Nat.reduceSub, Nat.reduceLeDiff, Nat.reduceLT, Int.reduceLT, Int.reduceLE, Int.reduceEq, Int.reduceToNat, Int.reduceAdd, Int.reduceSub, Int.reduceNeg, Int.reduceBEq, Int.reduceBNe, Nat.reduceBEq, Int.cast_ofNat_Int, decide_true, decide_false, ne_eq, eq_self_iff_true, beq_eq_false_iff_ne, bne_iff_ne, List.replicate, encEv, encN, zE, evOf_n, evOf_s, isS_n, isS_s, *]))))
      all_goals (first | decide | (simp only [maxLen, List.length_append, List.length_map, List.length_cons, List.length_nil] <;> omega) | omega | (rw [hl0.out]; first | exact .inl rfl | rfl | simp) | (simp_all; done) | trace_state)

    | cons x rest =>
      have hlt := cut_lt he
      have hx := cutD encN he
      simp only [encN] at hx
      simp -implicitDefEqProofs only [SD, SF, SL, e_nf, reduceCtorEq, implies_true, ↓reduceIte, Nat.reduceEqDiff, Nat.reduceAdd, Nat.reduceMul, Nat.reduceSub, Nat.reduceLeDiff, Nat.reduceLT, Int.reduceLT, Int.reduceLE, Int.reduceEq, Int.reduceToNat, Int.reduceAdd, Int.reduceSub, Int.reduceNeg, Int.reduceBEq, Int.reduceBNe, Nat.reduceBEq, Int.cast_ofNat_Int, decide_true, decide_false, ne_eq, eq_self_iff_true, beq_eq_false_iff_ne, bne_iff_ne, List.replicate, encEv, encN, zE, evOf_n, evOf_s, isS_n, isS_s, hlt]
      intro hl
      have hw := wrap_len (n := pre.length) (m := (l).length) (cut_lt' he) (by simp only [maxLen]; omega)
      replace he := Hd.mk he
      have hz1 := cut_lt' he.out
      have hlo := len_ofL es pre
      have hz2 : (ofL es pre).length + 1 ≤ maxLen := by simp only [maxLen]; omega
      have hz3 : ((ofL es pre).length + 1) * 376 ≤ 140737488355328 := by omega
      cases hf : es.find? (hasId x)
      case' none => have hsn := ofL_none (l := pre) hf
      case' some val => have hsn := ofL_some (l := pre) hf
      all_goals rcases hI with ⟨hp0, rfl⟩ | rfl
      all_goals try replace hp0 := Hd.mk hp0
      iterate 60 (all_goals (try (first
        | (have := hp0; (with_reducible refine back_in rest.length [7, 8, 9, 10, 11, 12, 13, 14, 15, 16, 17, 18, 19, 20, 21, 22, 23, 24, 25, 26, 27, 28] [7, 27] (pre ++ [x], rest, (DV.e0, [])) ?_ ⟨?_, ?_, ?_⟩ ?_)
           · simp
           · exact cut_snoc he.out
           · rfl
           · first | (left; refine ⟨?_, rfl⟩; rw [hsn]; exact hp0.out) | (right; rw [hsn]; done) | (right; rw [hsn, List.map_append]; rfl) | (right; rw [hsn, hp0.out]; rfl)
           · first | (simp -implicitDefEqProofs only [SD, SF, SL, e_nf, reduceCtorEq, implies_true, ↓reduceIte, Nat.reduceEqDiff, Nat.reduceAdd, Nat.reduceMul, Nat.reduceSub, Nat.reduceLeDiff, Nat.reduceLT, Int.reduceLT, Int.reduceLE, Int.reduceEq, Int.reduceToNat, Int.reduceAdd, Int.reduceSub, Int.reduceNeg, Int.reduceBEq, Int.reduceBNe, Nat.reduceBEq, Int.cast_ofNat_Int, decide_true, decide_false, ne_eq, eq_self_iff_true, beq_eq_false_iff_ne, bne_iff_ne, List.replicate, encEv, encN, zE, evOf_n, evOf_s, isS_n, isS_s] <;> simp <;> done) | (simp -implicitDefEqProofs only [SD, SF, SL, e_nf, reduceCtorEq, implies_true, ↓reduceIte, Nat.reduceEqDiff, Nat.reduceAdd, Nat.reduceMul, Nat.reduceSub, Nat.reduceLeDiff, Nat.reduceLT, Int.reduceLT, Int.reduceLE, Int.reduceEq, Int.reduceToNat, Int.reduceAdd, Int.reduceSub, Int.reduceNeg, Int.reduceBEq, Int.reduceBNe, Nat.reduceBEq, Int.cast_ofNat_Int, decide_true, decide_false, ne_eq, eq_self_iff_true, beq_eq_false_iff_ne, bne_iff_ne, List.replicate, encEv, encN, zE, evOf_n, evOf_s, isS_n, isS_s, *] <;> simp_all <;> done))
        | ((with_reducible refine back_in rest.length [7, 8, 9, 10, 11, 12, 13, 14, 15, 16, 17, 18, 19, 20, 21, 22, 23, 24, 25, 26, 27, 28] [7, 27] (pre ++ [x], rest, (DV.ow 28, [(28, Blk.vec 46 29 ((ofL es pre).map encEv))])) ?_ ⟨?_, ?_, ?_⟩ ?_)
           · simp
           · exact cut_snoc he.out
           · rfl
           · first | (left; refine ⟨?_, rfl⟩; rw [hsn]; exact hp0.out) | (right; rw [hsn]; done) | (right; rw [hsn, List.map_append]; rfl) | (right; rw [hsn, hp0.out]; rfl)
           · first | (simp -implicitDefEqProofs only [SD, SF, SL, e_nf, reduceCtorEq, implies_true, ↓reduceIte, Nat.reduceEqDiff, Nat.reduceAdd, Nat.reduceMul, Nat.reduceSub, Nat.reduceLeDiff, Nat.reduceLT, Int.reduceLT, Int.reduceLE, Int.reduceEq, Int.reduceToNat, Int.reduceAdd, Int.reduceSub, Int.reduceNeg, Int.reduceBEq, Int.reduceBNe, Nat.reduceBEq, Int.cast_ofNat_Int, decide_true, decide_false, ne_eq, eq_self_iff_true, beq_eq_false_iff_ne, bne_iff_ne, List.replicate, encEv, encN, zE, evOf_n, evOf_s, isS_n, isS_s] <;> simp <;> done) | (simp -implicitDefEqProofs only [SD, SF, SL, e_nf, reduceCtorEq, implies_true, ↓reduceIte, Nat.reduceEqDiff, Nat.reduceAdd, Nat.reduceMul, Nat.reduceSub, Nat.reduceLeDiff, Nat.reduceLT, Int.reduceLT, Int.reduceLE, Int.reduceEq, Int.reduceToNat, Int.reduceAdd, Int.reduceSub, Int.reduceNeg, Int.reduceBEq, Int.reduceBNe, Nat.reduceBEq, Int.cast_ofNat_Int, decide_true, decide_false, ne_eq, eq_self_iff_true, beq_eq_false_iff_ne, bne_iff_ne, List.replicate, encEv, encN, zE, evOf_n, evOf_s, isS_n, isS_s, *] <;> simp_all <;> done))
        | ((with_reducible refine back_in rest.length [7, 8, 9, 10, 11, 12, 13, 14, 15, 16, 17, 18, 19, 20, 21, 22, 23, 24, 25, 26, 27, 28] [7, 27] (pre ++ [x], rest, (DV.ow 28, [(28, Blk.vec 46 29 ((ofL es pre).map encEv ++ [encEv val]))])) ?_ ⟨?_, ?_, ?_⟩ ?_)
           · simp
           · exact cut_snoc he.out
           · rfl
           · first | (left; refine ⟨?_, rfl⟩; rw [hsn]; exact hp0.out) | (right; rw [hsn]; done) | (right; rw [hsn, List.map_append]; rfl) | (right; rw [hsn, hp0.out]; rfl)
           · first | (simp -implicitDefEqProofs only [SD, SF, SL, e_nf, reduceCtorEq, implies_true, ↓reduceIte, Nat.reduceEqDiff, Nat.reduceAdd, Nat.reduceMul, Nat.reduceSub, Nat.reduceLeDiff, Nat.reduceLT, Int.reduceLT, Int.reduceLE, Int.reduceEq, Int.reduceToNat, Int.reduceAdd, Int.reduceSub, Int.reduceNeg, Int.reduceBEq, Int.reduceBNe, Nat.reduceBEq, Int.cast_ofNat_Int, decide_true, decide_false, ne_eq, eq_self_iff_true, beq_eq_false_iff_ne, bne_iff_ne, List.replicate, encEv, encN, zE, evOf_n, evOf_s, isS_n, isS_s] <;> simp <;> done) | (simp -implicitDefEqProofs only [SD, SF, SL, e_nf, reduceCtorEq, implies_true, ↓reduceIte, Nat.reduceEqDiff, Nat.reduceAdd, Nat.reduceMul, Nat.reduceSub, Nat.reduceLeDiff, Nat.reduceLT, Int.reduceLT, Int.reduceLE, Int.reduceEq, Int.reduceToNat, Int.reduceAdd, Int.reduceSub, Int.reduceNeg, Int.reduceBEq, Int.reduceBNe, Nat.reduceBEq, Int.cast_ofNat_Int, decide_true, decide_false, ne_eq, eq_self_iff_true, beq_eq_false_iff_ne, bne_iff_ne, List.replicate, encEv, encN, zE, evOf_n, evOf_s, isS_n, isS_s, *] <;> simp_all <;> done))
        | (have := hp0; (with_reducible refine back_in rest.length [7, 8, 9, 10, 11, 12, 13, 14, 15, 16, 17, 18, 19, 20, 21, 22, 23, 24, 25, 26, 27, 28] [7, 27] (pre ++ [x], rest, (DV.ow 28, [(28, Blk.vec 46 29 ([encEv val]))])) ?_ ⟨?_, ?_, ?_⟩ ?_)
           · simp
           · exact cut_snoc he.out
           · rfl
           · first | (left; refine ⟨?_, rfl⟩; rw [hsn]; exact hp0.out) | (right; rw [hsn]; done) | (right; rw [hsn, List.map_append]; rfl) | (right; rw [hsn, hp0.out]; rfl)
           · first | (simp -implicitDefEqProofs only [SD, SF, SL, e_nf, reduceCtorEq, implies_true, ↓reduceIte, Nat.reduceEqDiff, Nat.reduceAdd, Nat.reduceMul, Nat.reduceSub, Nat.reduceLeDiff, Nat.reduceLT, Int.reduceLT, Int.reduceLE, Int.reduceEq, Int.reduceToNat, Int.reduceAdd, Int.reduceSub, Int.reduceNeg, Int.reduceBEq, Int.reduceBNe, Nat.reduceBEq, Int.cast_ofNat_Int, decide_true, decide_false, ne_eq, eq_self_iff_true, beq_eq_false_iff_ne, bne_iff_ne, List.replicate, encEv, encN, zE, evOf_n, evOf_s, isS_n, isS_s] <;> simp <;> done) | (simp -implicitDefEqProofs only [SD, SF, SL, e_nf, reduceCtorEq, implies_true, ↓reduceIte, Nat.reduceEqDiff, Nat.reduceAdd, Nat.reduceMul, Nat.reduceSub, Nat.reduceLeDiff, Nat.reduceLT, Int.reduceLT, Int.reduceLE, Int.reduceEq, Int.reduceToNat, Int.reduceAdd, Int.reduceSub, Int.reduceNeg, Int.reduceBEq, Int.reduceBNe, Nat.reduceBEq, Int.cast_ofNat_Int, decide_true, decide_false, ne_eq, eq_self_iff_true, beq_eq_false_iff_ne, bne_iff_ne, List.replicate, encEv, encN, zE, evOf_n, evOf_s, isS_n, isS_s, *] <;> simp_all <;> done))
        | ((with_reducible refine of_kSpec ?_); refine call_fz (spec17 es x) rfl ?_)
        | (with_reducible refine ite_in (fun _ => ?_) (fun _ => ?_))
        | (with_reducible refine ⟨fun _ => ?_, fun _ => ?_⟩)
        | (with_reducible refine And.intro ?_ ?_)
        | (with_reducible intro _)
        | (with_reducible exact is_in _)
        | (simp -implicitDefEqProofs only [SD, SF, SL, e_nf, reduceCtorEq, implies_true, ↓reduceIte, Nat.reduceEqDiff, Nat.reduceAdd, Nat.reduceMul, Nat.reduceSub, Nat.reduceLeDiff, Nat.reduceLT, Int.reduceLT, Int.reduceLE, Int.reduceEq, Int.reduceToNat, Int.reduceAdd, Int.reduceSub, Int.reduceNeg, Int.reduceBEq, Int.reduceBNe, Nat.reduceBEq, Int.cast_ofNat_Int, decide_true, decide_false, ne_eq, eq_self_iff_true, beq_eq_false_iff_ne, bne_iff_ne, List.replicate, encEv, encN, zE, evOf_n, evOf_s, isS_n, isS_s, *]))))
      all_goals (first | decide | (simp only [maxLen, List.length_append, List.length_map, List.length_cons, List.length_nil] <;> omega) | omega | (rw [hl0.out]; first | exact .inl rfl | rfl | simp) | (simp_all; done) | trace_state)

end Go.Proofs.YtcolebkklojccaaGreat.E
