/-
  AuB: walks of functions of the program at data level.
-/
import Derived.Test.YtcpiaamaddfbcaaProg
import Derived.Test.YtcpiaamaddfbcaaEngZ
import Derived.Test.YtcpiaamaddfbcaaAuA
import Derived.KernelRfl
set_option linter.unusedVariables false
set_option linter.unusedSimpArgs false
namespace Go.Proofs.Ytcpiaamaddfbcaa.E
open Go
set_option maxHeartbeats 4000000
set_option maxRecDepth 100000
set_option linter.unusedSimpArgs false
set_option linter.unusedVariables false
attribute [local congr] c_wp c_ops c_op c_opS c_run c_runS c_dt c_seq c_blk c_loop c_S c_put c_bind c_mv c_pick c_nt c_ng c_bin c_binI c_binS c_beq c_B c_eqa c_hd c_cells c_blkK c_box c_vec c_take c_ld c_ldF c_cellsK c_st c_fld c_fldv c_ix c_ixp c_ixv c_ixs c_sub c_subs c_len c_lens c_src c_dst c_ow c_app c_ext c_mm c_conv c_str c_isn c_fill c_rows c_boxo c_frz c_frzO c_frzA c_frzV c_spec c_specO c_opsP c_opP c_runP c_specP c_Z c_qretP c_fz c_fn c_gv c_cond c_res1 c_resL c_ret c_qret c_ite c_unr c_nx c_bk c_cut c_is
attribute [local irreducible] dwp
def ac78 : AC := (.seq (.ops [⟨(some 2), none, (.box (.t 0))⟩, ⟨(some 3), none, (.mv (.c (.bool false)))⟩]) (.seq (.ops [⟨(some 4), none, (.fld 3 (.t 2))⟩, ⟨(some 5), none, (.ld false 1 (.t 4))⟩, ⟨(some 6), none, (.ld false 1 (.t 1))⟩, ⟨(some 7), none, (.bin .eql (.t 5) (.t 6))⟩, ⟨(some 3), none, (.mv (.t 7))⟩]) .ret))
theorem tr78 : Try.f78.body.bind (trCode Try.prog) = some (strip ac78) := by kernel_rfl
theorem spec78 (e : Ev) (k : Int) : Spec Try.prog 78 [.fz (.agg (encEv e)), .fz (.pf [.int .i64 k])] (.fz (.bool (decide (e.kind = k)))) := by
  refine spec_at (n := 6) (ars := [(.t 3)]) (ac := ac78) Try.func78 (by kernel_rfl) (by kernel_rfl) tr78 (by kernel_rfl) ?_
  unfold ac78
  iterate 30 (all_goals (try (first
    | (with_reducible refine ite_in (fun _ => ?_) (fun _ => ?_))
    | (with_reducible refine ⟨fun _ => ?_, fun _ => ?_⟩)
    | (with_reducible refine And.intro ?_ ?_)
    | (with_reducible intro _)
    | (with_reducible exact is_in _)
    | (simp -implicitDefEqProofs only [SD, SF, SL, e_nf, reduceCtorEq, implies_true, ↓reduceIte, Nat.reduceEqDiff, Nat.reduceAdd, Nat.reduceMul, Nat.reduceSub, Nat.reduceLeDiff, Nat.reduceLT, Int.reduceLT, Int.reduceLE, Int.reduceEq, Int.reduceToNat, Int.reduceAdd, Int.reduceSub, Int.reduceNeg, Int.reduceBEq, Int.reduceBNe, Nat.reduceBEq, Int.cast_ofNat_Int, decide_true, decide_false, ne_eq, eq_self_iff_true, beq_eq_false_iff_ne, bne_iff_ne, List.replicate, encEv, *]))))
def ac77 : AC := (.seq (.ops [⟨(some 4), none, (.mv (.c (.int .i64 0)))⟩]) (.seq (.seq (.ops [⟨(some 6), none, (.mv (.t 0))⟩, ⟨(some 7), none, (.len (.t 6))⟩, ⟨(some 8), none, (.mv (.c (.int .i64 0)))⟩]) (.block 0 (.loop (.seq (.ops [⟨(some 9), none, (.bin .lss (.t 8) (.t 7))⟩]) (.seq (.cond (.t 9) .skip (.exit 0)) (.seq (.block 1 (.seq (.ops [⟨(some 10), none, (.mv (.t 8))⟩, ⟨(some 5), none, (.mv (.t 10))⟩]) (.seq (.ops [⟨(some 11), none, (.mv (.t 1))⟩, ⟨(some 12), none, (.mv (.t 0))⟩, ⟨(some 13), none, (.mv (.t 5))⟩, ⟨(some 14), none, (.ix 29 (.t 12) (.t 13))⟩, ⟨(some 15), none, (.ld true 29 (.t 14))⟩, ⟨(some 16), none, (.callv (.t 11) [(.t 15)])⟩]) (.cond (.t 16) (.seq (.ops [⟨(some 17), none, (.mv (.t 5))⟩, ⟨(some 4), none, (.mv (.t 17))⟩]) .ret) .skip)))) (.ops [⟨(some 18), none, (.bin .add (.t 8) (.c (.int .i64 1)))⟩, ⟨(some 8), none, (.mv (.t 18))⟩]))))))) (.seq (.ops [⟨(some 4), none, (.mv (.c (.int .i64 (-1))))⟩]) .ret)))
theorem tr77 : Try.f77.body.bind (trCode Try.prog) = some (strip ac77) := by kernel_rfl
theorem spec77 (es : List Ev) (k : Int) : Spec Try.prog 77 [.fz (.sl 29 (es.map encEv)), .fz (.fn 78 [.pf [.int .i64 k]])] (.fz (.int .i64 (idxL es k 0))) := by
  refine spec_at (n := 17) (ars := [(.t 4)]) (ac := ac77) Try.func77 (by kernel_rfl) (by kernel_rfl) tr77 (by kernel_rfl) ?_
  unfold ac77
  simp -implicitDefEqProofs only [SD, SF, SL, e_nf, reduceCtorEq, implies_true, ↓reduceIte, Nat.reduceEqDiff, Nat.reduceAdd, Nat.reduceMul, Nat.reduceSub, Nat.reduceLeDiff, Nat.reduceLT, Int.reduceLT, Int.reduceLE, Int.reduceEq, Int.reduceToNat, Int.reduceAdd, Int.reduceSub, Int.reduceNeg, Int.reduceBEq, Int.reduceBNe, Nat.reduceBEq, Int.cast_ofNat_Int, decide_true, decide_false, ne_eq, eq_self_iff_true, beq_eq_false_iff_ne, bne_iff_ne, List.replicate]
  intro hl
  refine loop_q (X := List Ev × List Ev × Unit) (fun n x => es = x.1 ++ x.2.1 ∧ n = x.2.1.length ∧ (idxL es k 0 = idxL x.2.1 k x.1.length)) (fun x => [(8, .int .i64 x.1.length)]) (fun _ => []) [4, 5, 9, 10, 11, 12, 13, 14, 15, 16, 17, 18] [] (es).length ([], es, ()) ⟨rfl, rfl, by first | rfl | assumption | (simp_all [idxL]; done) | grind [idxL]⟩ ?_ ?_
  · simp -implicitDefEqProofs only [SD, SF, SL, e_nf, reduceCtorEq, implies_true, ↓reduceIte, Nat.reduceEqDiff, Nat.reduceAdd, Nat.reduceMul, Nat.reduceSub, Nat.reduceLeDiff, Nat.reduceLT, Int.reduceLT, Int.reduceLE, Int.reduceEq, Int.reduceToNat, Int.reduceAdd, Int.reduceSub, Int.reduceNeg, Int.reduceBEq, Int.reduceBNe, Nat.reduceBEq, Int.cast_ofNat_Int, decide_true, decide_false, ne_eq, eq_self_iff_true, beq_eq_false_iff_ne, bne_iff_ne, List.replicate, idxL] <;> simp
  · rintro n ⟨pre, rest, a⟩ ⟨he, rfl, hI⟩
    dsimp only at he hI
    cases rest with
    | nil =>
      obtain rfl : es = pre := by simpa using he
      clear he
      have hlt : ¬ (((es).length : Int) < ((es).length : Int)) := Int.lt_irrefl _
      iterate 30 (all_goals (try (first
        | ((with_reducible refine of_kSpec ?_); refine call_fz (spec78 x k) rfl ?_)
        | (with_reducible refine ite_in (fun _ => ?_) (fun _ => ?_))
        | (with_reducible refine ⟨fun _ => ?_, fun _ => ?_⟩)
        | (with_reducible refine And.intro ?_ ?_)
        | (with_reducible intro _)
        | (with_reducible exact is_in _)
        | (simp -implicitDefEqProofs only [SD, SF, SL, e_nf, reduceCtorEq, implies_true, ↓reduceIte, Nat.reduceEqDiff, Nat.reduceAdd, Nat.reduceMul, Nat.reduceSub, Nat.reduceLeDiff, Nat.reduceLT, Int.reduceLT, Int.reduceLE, Int.reduceEq, Int.reduceToNat, Int.reduceAdd, Int.reduceSub, Int.reduceNeg, Int.reduceBEq, Int.reduceBNe, Nat.reduceBEq, Int.cast_ofNat_Int, decide_true, decide_false, ne_eq, eq_self_iff_true, beq_eq_false_iff_ne, bne_iff_ne, List.replicate, idxL, *]))))

    | cons x rest =>
      have hlt := cut_lt he
      have hx := cutD encEv he
      simp only [encEv] at hx
      have hw := wrap_len (n := pre.length) (m := (es).length) (cut_lt' he) (by simpa using hl)
      replace he := Hd.mk he
      have hx2 : (List.map encEv es).getD pre.length [] = encEv x := cutD encEv he.out
      iterate 30 (all_goals (try (first
        | ((with_reducible refine back_in rest.length [4, 5, 9, 10, 11, 12, 13, 14, 15, 16, 17, 18] [] (pre ++ [x], rest, a) ?_ ⟨?_, ?_, ?_⟩ ?_)
           · simp
           · exact cut_snoc he.out
           · rfl
           · first | rfl | assumption | (simp_all [idxL]; done) | grind [idxL]
           · first | (simp -implicitDefEqProofs only [SD, SF, SL, e_nf, reduceCtorEq, implies_true, ↓reduceIte, Nat.reduceEqDiff, Nat.reduceAdd, Nat.reduceMul, Nat.reduceSub, Nat.reduceLeDiff, Nat.reduceLT, Int.reduceLT, Int.reduceLE, Int.reduceEq, Int.reduceToNat, Int.reduceAdd, Int.reduceSub, Int.reduceNeg, Int.reduceBEq, Int.reduceBNe, Nat.reduceBEq, Int.cast_ofNat_Int, decide_true, decide_false, ne_eq, eq_self_iff_true, beq_eq_false_iff_ne, bne_iff_ne, List.replicate, idxL] <;> simp <;> done) | (simp -implicitDefEqProofs only [SD, SF, SL, e_nf, reduceCtorEq, implies_true, ↓reduceIte, Nat.reduceEqDiff, Nat.reduceAdd, Nat.reduceMul, Nat.reduceSub, Nat.reduceLeDiff, Nat.reduceLT, Int.reduceLT, Int.reduceLE, Int.reduceEq, Int.reduceToNat, Int.reduceAdd, Int.reduceSub, Int.reduceNeg, Int.reduceBEq, Int.reduceBNe, Nat.reduceBEq, Int.cast_ofNat_Int, decide_true, decide_false, ne_eq, eq_self_iff_true, beq_eq_false_iff_ne, bne_iff_ne, List.replicate, idxL, *] <;> simp_all <;> done))
        | ((with_reducible refine of_kSpec ?_); refine call_fz (spec78 x k) rfl ?_)
        | (with_reducible refine ite_in (fun _ => ?_) (fun _ => ?_))
        | (with_reducible refine ⟨fun _ => ?_, fun _ => ?_⟩)
        | (with_reducible refine And.intro ?_ ?_)
        | (with_reducible intro _)
        | (with_reducible exact is_in _)
        | (simp -implicitDefEqProofs only [SD, SF, SL, e_nf, reduceCtorEq, implies_true, ↓reduceIte, Nat.reduceEqDiff, Nat.reduceAdd, Nat.reduceMul, Nat.reduceSub, Nat.reduceLeDiff, Nat.reduceLT, Int.reduceLT, Int.reduceLE, Int.reduceEq, Int.reduceToNat, Int.reduceAdd, Int.reduceSub, Int.reduceNeg, Int.reduceBEq, Int.reduceBNe, Nat.reduceBEq, Int.cast_ofNat_Int, decide_true, decide_false, ne_eq, eq_self_iff_true, beq_eq_false_iff_ne, bne_iff_ne, List.replicate, idxL, *]))))
def ac57 : AC := (.seq (.ops [⟨(some 3), none, (.box (.t 1))⟩, ⟨(some 4), none, (.mv (.c (.int .i64 0)))⟩]) (.seq (.ops [⟨(some 5), none, (.mv (.t 0))⟩, ⟨(some 6), none, (.mkfn 78 [(.t 3)])⟩, ⟨(some 7), none, (.call false 77 [(.t 5), (.t 6)])⟩, ⟨(some 4), none, (.mv (.t 7))⟩]) .ret))
theorem tr57 : Try.f57.body.bind (trCode Try.prog) = some (strip ac57) := by kernel_rfl
theorem spec57 (es : List Ev) (k : Int) : Spec Try.prog 57 [.fz (.sl 29 (es.map encEv)), .fz (.int .i64 k)] (.fz (.int .i64 (idxL es k 0))) := by
  refine spec_at (n := 6) (ars := [(.t 4)]) (ac := ac57) Try.func57 (by kernel_rfl) (by kernel_rfl) tr57 (by kernel_rfl) ?_
  unfold ac57
  iterate 30 (all_goals (try (first
    | ((with_reducible refine of_kSpec ?_); refine call_fz (spec77 es k) rfl ?_)
    | (with_reducible refine ite_in (fun _ => ?_) (fun _ => ?_))
    | (with_reducible refine ⟨fun _ => ?_, fun _ => ?_⟩)
    | (with_reducible refine And.intro ?_ ?_)
    | (with_reducible intro _)
    | (with_reducible exact is_in _)
    | (simp -implicitDefEqProofs only [SD, SF, SL, e_nf, reduceCtorEq, implies_true, ↓reduceIte, Nat.reduceEqDiff, Nat.reduceAdd, Nat.reduceMul, Nat.reduceSub, Nat.reduceLeDiff, Nat.reduceLT, Int.reduceLT, Int.reduceLE, Int.reduceEq, Int.reduceToNat, Int.reduceAdd, Int.reduceSub, Int.reduceNeg, Int.reduceBEq, Int.reduceBNe, Nat.reduceBEq, Int.cast_ofNat_Int, decide_true, decide_false, ne_eq, eq_self_iff_true, beq_eq_false_iff_ne, bne_iff_ne, List.replicate, *]))))
def ac58 : AC := (.seq (.ops [⟨(some 2), none, (.mv (.c .e0))⟩]) (.seq (.seq (.ops [⟨(some 3), none, (.mv (.t 0))⟩, ⟨(some 4), none, (.isn false (.t 3))⟩]) (.cond (.t 4) (.seq (.ops [⟨(some 2), none, (.mv (.c .e0))⟩]) .ret) .skip)) (.seq (.ops [⟨(some 5), none, (.buildSl 62 2 0 [(.str []), (.int .i64 0)] [])⟩, ⟨(some 6), none, (.mv (.t 0))⟩, ⟨(some 7), none, (.app 62 2 24 (.t 5) (.t 6))⟩, ⟨(some 2), none, (.mv (.t 7))⟩]) .ret)))
theorem tr58 : Try.f58.body.bind (trCode Try.prog) = some (strip ac58) := by kernel_rfl
theorem spec58 (us : List LU) (hb : us.length ≤ 1000) : Spec Try.prog 58 [.fz (.sl 2 (us.map encLU))] (.own 62 2 (us.map encLU)) := by
  refine spec_at (n := 7) (ars := [(.t 2)]) (ac := ac58) Try.func58 (by kernel_rfl) (by kernel_rfl) tr58 (by kernel_rfl) ?_
  unfold ac58
  have h1 : us.length ≤ maxLen := by simp only [maxLen]; omega
  have h2 : us.length * 24 ≤ 140737488355328 := by omega
  iterate 30 (all_goals (try (first
    | (with_reducible refine ite_in (fun _ => ?_) (fun _ => ?_))
    | (with_reducible refine ⟨fun _ => ?_, fun _ => ?_⟩)
    | (with_reducible refine And.intro ?_ ?_)
    | (with_reducible intro _)
    | (with_reducible exact is_in _)
    | (simp -implicitDefEqProofs only [SD, SF, SL, e_nf, reduceCtorEq, implies_true, ↓reduceIte, Nat.reduceEqDiff, Nat.reduceAdd, Nat.reduceMul, Nat.reduceSub, Nat.reduceLeDiff, Nat.reduceLT, Int.reduceLT, Int.reduceLE, Int.reduceEq, Int.reduceToNat, Int.reduceAdd, Int.reduceSub, Int.reduceNeg, Int.reduceBEq, Int.reduceBNe, Nat.reduceBEq, Int.cast_ofNat_Int, decide_true, decide_false, ne_eq, eq_self_iff_true, beq_eq_false_iff_ne, bne_iff_ne, List.replicate, *]))))
  all_goals (simp_all)
def ac59 : AC := (.seq (.ops [⟨(some 2), none, (.mv (.c .e0))⟩]) (.seq (.seq (.ops [⟨(some 3), none, (.mv (.t 0))⟩, ⟨(some 4), none, (.isn false (.t 3))⟩]) (.cond (.t 4) (.seq (.ops [⟨(some 2), none, (.mv (.c .e0))⟩]) .ret) .skip)) (.seq (.ops [⟨(some 5), none, (.buildSl 79 2 0 [(.int .i64 0), (.int .i64 0)] [])⟩, ⟨(some 6), none, (.mv (.t 0))⟩, ⟨(some 7), none, (.app 79 2 16 (.t 5) (.t 6))⟩, ⟨(some 2), none, (.mv (.t 7))⟩]) .ret)))
theorem tr59 : Try.f59.body.bind (trCode Try.prog) = some (strip ac59) := by kernel_rfl
theorem spec59 (us : List LK) (hb : us.length ≤ 1000) : Spec Try.prog 59 [.fz (.sl 2 (us.map encLK))] (.own 79 2 (us.map encLK)) := by
  refine spec_at (n := 7) (ars := [(.t 2)]) (ac := ac59) Try.func59 (by kernel_rfl) (by kernel_rfl) tr59 (by kernel_rfl) ?_
  unfold ac59
  have h1 : us.length ≤ maxLen := by simp only [maxLen]; omega
  have h2 : us.length * 16 ≤ 140737488355328 := by omega
  iterate 30 (all_goals (try (first
    | (with_reducible refine ite_in (fun _ => ?_) (fun _ => ?_))
    | (with_reducible refine ⟨fun _ => ?_, fun _ => ?_⟩)
    | (with_reducible refine And.intro ?_ ?_)
    | (with_reducible intro _)
    | (with_reducible exact is_in _)
    | (simp -implicitDefEqProofs only [SD, SF, SL, e_nf, reduceCtorEq, implies_true, ↓reduceIte, Nat.reduceEqDiff, Nat.reduceAdd, Nat.reduceMul, Nat.reduceSub, Nat.reduceLeDiff, Nat.reduceLT, Int.reduceLT, Int.reduceLE, Int.reduceEq, Int.reduceToNat, Int.reduceAdd, Int.reduceSub, Int.reduceNeg, Int.reduceBEq, Int.reduceBNe, Nat.reduceBEq, Int.cast_ofNat_Int, decide_true, decide_false, ne_eq, eq_self_iff_true, beq_eq_false_iff_ne, bne_iff_ne, List.replicate, *]))))
  all_goals (simp_all)
def ac38 : AC := (.seq (.ops [⟨(some 2), none, (.alloc [.e0, .e0, (.int .i64 0), (.int .i64 0), (.int .i64 0), (.int .i64 0), (.int .i64 0), (.int .i64 0), (.int .i64 0)])⟩, ⟨(some 3), none, (.mv (.c (.str [])))⟩]) (.seq (.ops [⟨(some 4), none, (.mv (.c (.str [])))⟩]) (.seq (.seq (.ops [⟨(some 8), none, (.mv (.t 0))⟩, ⟨(some 9), none, (.call false 57 [(.t 8), (.c (.int .i64 1))])⟩, ⟨(some 5), none, (.mv (.t 9))⟩]) (.seq (.ops [⟨(some 10), none, (.mv (.t 5))⟩, ⟨(some 11), none, (.bin .geq (.t 10) (.c (.int .i64 0)))⟩]) (.cond (.t 11) (.ops [⟨(some 12), none, (.mv (.t 0))⟩, ⟨(some 13), none, (.mv (.t 5))⟩, ⟨(some 14), none, (.ix 29 (.t 12) (.t 13))⟩, ⟨(some 15), none, (.fld 2 (.t 14))⟩, ⟨(some 16), none, (.ld false 1 (.t 15))⟩, ⟨(some 4), none, (.mv (.t 16))⟩]) .skip))) (.seq (.seq (.ops [⟨(some 17), none, (.mv (.t 0))⟩, ⟨(some 18), none, (.call false 57 [(.t 17), (.c (.int .i64 3))])⟩, ⟨(some 6), none, (.mv (.t 18))⟩]) (.seq (.ops [⟨(some 19), none, (.mv (.t 6))⟩, ⟨(some 20), none, (.bin .geq (.t 19) (.c (.int .i64 0)))⟩]) (.cond (.t 20) (.seq (.ops [⟨(some 21), none, (.mv (.t 0))⟩, ⟨(some 22), none, (.mv (.t 6))⟩, ⟨(some 23), none, (.ix 29 (.t 21) (.t 22))⟩, ⟨(some 24), none, (.fld 10 (.t 23))⟩, ⟨(some 25), none, (.fld 7 (.t 24))⟩, ⟨(some 26), none, (.ld true 9 (.t 25))⟩, ⟨(some 7), none, (.alloc [.e0, .e0, (.int .i64 0), (.int .i64 0), (.int .i64 0), (.int .i64 0), (.int .i64 0), (.int .i64 0), (.int .i64 0)])⟩, ⟨none, none, (.sto 9 (.t 7) (.t 26))⟩]) (.seq (.draw (.q false ⟨(some 27), none, (.fld 0 (.t 7))⟩ (.q false ⟨(some 28), none, (.ld false 1 (.t 27))⟩ (.q false ⟨(some 30), none, (.fld 1 (.t 7))⟩ (.q false ⟨(some 31), none, (.ld false 1 (.t 30))⟩ (.op ⟨(some 29), none, (.call false 58 [(.t 28)])⟩ (.q false ⟨(some 33), none, (.fld 0 (.t 7))⟩ (.op ⟨(some 32), none, (.call false 59 [(.t 31)])⟩ (.op ⟨none, none, (.sto 1 (.t 33) (.t 29))⟩ (.q false ⟨(some 34), none, (.fld 1 (.t 7))⟩ (.op ⟨none, none, (.sto 1 (.t 34) (.t 32))⟩ .nil))))))))))) (.seq (.ops [⟨(some 35), none, (.ld true 9 (.t 7))⟩, ⟨(some 36), none, (.mv (.t 4))⟩, ⟨none, none, (.sto 9 (.t 2) (.t 35))⟩, ⟨(some 3), none, (.mv (.t 36))⟩]) .ret))) .skip))) (.seq (.ops [⟨(some 37), none, (.mv (.t 4))⟩, ⟨(some 38), none, (.call false 60 [(.t 37)])⟩, ⟨(some 39), none, (.mv (.t 4))⟩, ⟨none, none, (.sto 9 (.t 2) (.t 38))⟩, ⟨(some 3), none, (.mv (.t 39))⟩]) .ret)))))
theorem tr38 : Try.f38.body.bind (trCode Try.prog) = some (strip ac38) := by kernel_rfl
theorem spec38 (es : List Ev) (hb : ∀ e ∈ es, e.lv.users.length ≤ 1000 ∧ e.lv.kinds.length ≤ 1000) : Spec Try.prog 38 [.fz (.sl 29 (es.map encEv))] (.fz (.tup [.agg (encLv (levelsL es)), .str (creatorL es)])) := by
  refine spec_at (n := 39) (ars := [(.c true 9 2), (.t 3)]) (ac := ac38) Try.func38 (by kernel_rfl) (by kernel_rfl) tr38 (by kernel_rfl) ?_
  unfold ac38
  have h1 := idx_spec es 1 0
  have h3 := idx_spec es 3 0
  have hm1 : ¬ ((0 : Int) ≤ -1) := by decide
  rcases h1 with ⟨pre1, e1, rest1, he1, hi1, hf1⟩ | ⟨hi1, hf1⟩
  · obtain hx1 := cutD encEv he1
    simp only [encEv] at hx1
    have hq1 := cut_lt he1
    rw [Nat.zero_add] at hi1
    replace he1 := Hd.mk he1
    rcases h3 with ⟨pre3, e3, rest3, he3, hi3, hf3⟩ | ⟨hi3, hf3⟩
    · have hb3 := hb e3 (by rw [he3]; simp)
      obtain hx3 := cutD encEv he3
      simp only [encEv] at hx3
      have hq3 := cut_lt he3
      rw [Nat.zero_add] at hi3
      replace he3 := Hd.mk he3
      iterate 60 (all_goals (try (first
        | ((with_reducible refine of_kSpec ?_); refine call_fz (spec57 es 1) rfl ?_)
        | ((with_reducible refine of_kSpec ?_); refine call_fz (spec57 es 3) rfl ?_)
        | ((with_reducible refine of_kSpec ?_); refine call_fz (spec60 _) rfl ?_)
        | ((with_reducible refine of_kSpec ?_); refine call_ow (spec58 e3.lv.users hb3.1) rfl ?_)
        | ((with_reducible refine of_kSpec ?_); refine call_ow (spec59 e3.lv.kinds hb3.2) rfl ?_)
        | (with_reducible refine ite_in (fun _ => ?_) (fun _ => ?_))
        | (with_reducible refine ⟨fun _ => ?_, fun _ => ?_⟩)
        | (with_reducible refine And.intro ?_ ?_)
        | (with_reducible intro _)
        | (with_reducible exact is_in _)
        | (simp -implicitDefEqProofs only [SD, SF, SL, e_nf, reduceCtorEq, implies_true, ↓reduceIte, Nat.reduceEqDiff, Nat.reduceAdd, Nat.reduceMul, Nat.reduceSub, Nat.reduceLeDiff, Nat.reduceLT, Int.reduceLT, Int.reduceLE, Int.reduceEq, Int.reduceToNat, Int.reduceAdd, Int.reduceSub, Int.reduceNeg, Int.reduceBEq, Int.reduceBNe, Nat.reduceBEq, Int.cast_ofNat_Int, decide_true, decide_false, ne_eq, eq_self_iff_true, beq_eq_false_iff_ne, bne_iff_ne, List.replicate, encLv, encEv, *]))))
      all_goals (simp_all [levelsL, creatorL, encLv])
    · skip
      iterate 60 (all_goals (try (first
        | ((with_reducible refine of_kSpec ?_); refine call_fz (spec57 es 1) rfl ?_)
        | ((with_reducible refine of_kSpec ?_); refine call_fz (spec57 es 3) rfl ?_)
        | ((with_reducible refine of_kSpec ?_); refine call_fz (spec60 _) rfl ?_)
        | ((with_reducible refine of_kSpec ?_); refine call_ow (spec58 e3.lv.users hb3.1) rfl ?_)
        | ((with_reducible refine of_kSpec ?_); refine call_ow (spec59 e3.lv.kinds hb3.2) rfl ?_)
        | (with_reducible refine ite_in (fun _ => ?_) (fun _ => ?_))
        | (with_reducible refine ⟨fun _ => ?_, fun _ => ?_⟩)
        | (with_reducible refine And.intro ?_ ?_)
        | (with_reducible intro _)
        | (with_reducible exact is_in _)
        | (simp -implicitDefEqProofs only [SD, SF, SL, e_nf, reduceCtorEq, implies_true, ↓reduceIte, Nat.reduceEqDiff, Nat.reduceAdd, Nat.reduceMul, Nat.reduceSub, Nat.reduceLeDiff, Nat.reduceLT, Int.reduceLT, Int.reduceLE, Int.reduceEq, Int.reduceToNat, Int.reduceAdd, Int.reduceSub, Int.reduceNeg, Int.reduceBEq, Int.reduceBNe, Nat.reduceBEq, Int.cast_ofNat_Int, decide_true, decide_false, ne_eq, eq_self_iff_true, beq_eq_false_iff_ne, bne_iff_ne, List.replicate, encLv, encEv, *]))))
      all_goals (simp_all [levelsL, creatorL, encLv])
  · skip
    rcases h3 with ⟨pre3, e3, rest3, he3, hi3, hf3⟩ | ⟨hi3, hf3⟩
    · have hb3 := hb e3 (by rw [he3]; simp)
      obtain hx3 := cutD encEv he3
      simp only [encEv] at hx3
      have hq3 := cut_lt he3
      rw [Nat.zero_add] at hi3
      replace he3 := Hd.mk he3
      iterate 60 (all_goals (try (first
        | ((with_reducible refine of_kSpec ?_); refine call_fz (spec57 es 1) rfl ?_)
        | ((with_reducible refine of_kSpec ?_); refine call_fz (spec57 es 3) rfl ?_)
        | ((with_reducible refine of_kSpec ?_); refine call_fz (spec60 _) rfl ?_)
        | ((with_reducible refine of_kSpec ?_); refine call_ow (spec58 e3.lv.users hb3.1) rfl ?_)
        | ((with_reducible refine of_kSpec ?_); refine call_ow (spec59 e3.lv.kinds hb3.2) rfl ?_)
        | (with_reducible refine ite_in (fun _ => ?_) (fun _ => ?_))
        | (with_reducible refine ⟨fun _ => ?_, fun _ => ?_⟩)
        | (with_reducible refine And.intro ?_ ?_)
        | (with_reducible intro _)
        | (with_reducible exact is_in _)
        | (simp -implicitDefEqProofs only [SD, SF, SL, e_nf, reduceCtorEq, implies_true, ↓reduceIte, Nat.reduceEqDiff, Nat.reduceAdd, Nat.reduceMul, Nat.reduceSub, Nat.reduceLeDiff, Nat.reduceLT, Int.reduceLT, Int.reduceLE, Int.reduceEq, Int.reduceToNat, Int.reduceAdd, Int.reduceSub, Int.reduceNeg, Int.reduceBEq, Int.reduceBNe, Nat.reduceBEq, Int.cast_ofNat_Int, decide_true, decide_false, ne_eq, eq_self_iff_true, beq_eq_false_iff_ne, bne_iff_ne, List.replicate, encLv, encEv, *]))))
      all_goals (simp_all [levelsL, creatorL, encLv])
    · skip
      iterate 60 (all_goals (try (first
        | ((with_reducible refine of_kSpec ?_); refine call_fz (spec57 es 1) rfl ?_)
        | ((with_reducible refine of_kSpec ?_); refine call_fz (spec57 es 3) rfl ?_)
        | ((with_reducible refine of_kSpec ?_); refine call_fz (spec60 _) rfl ?_)
        | ((with_reducible refine of_kSpec ?_); refine call_ow (spec58 e3.lv.users hb3.1) rfl ?_)
        | ((with_reducible refine of_kSpec ?_); refine call_ow (spec59 e3.lv.kinds hb3.2) rfl ?_)
        | (with_reducible refine ite_in (fun _ => ?_) (fun _ => ?_))
        | (with_reducible refine ⟨fun _ => ?_, fun _ => ?_⟩)
        | (with_reducible refine And.intro ?_ ?_)
        | (with_reducible intro _)
        | (with_reducible exact is_in _)
        | (simp -implicitDefEqProofs only [SD, SF, SL, e_nf, reduceCtorEq, implies_true, ↓reduceIte, Nat.reduceEqDiff, Nat.reduceAdd, Nat.reduceMul, Nat.reduceSub, Nat.reduceLeDiff, Nat.reduceLT, Int.reduceLT, Int.reduceLE, Int.reduceEq, Int.reduceToNat, Int.reduceAdd, Int.reduceSub, Int.reduceNeg, Int.reduceBEq, Int.reduceBNe, Nat.reduceBEq, Int.cast_ofNat_Int, decide_true, decide_false, ne_eq, eq_self_iff_true, beq_eq_false_iff_ne, bne_iff_ne, List.replicate, encLv, encEv, *]))))
      all_goals (simp_all [levelsL, creatorL, encLv])

def ac20 : AC := (.seq (.ops [⟨(some 2), none, (.alloc [.e0, .e0, (.int .i64 0), (.int .i64 0), (.int .i64 0), (.int .i64 0), (.int .i64 0), (.int .i64 0), (.int .i64 0)])⟩, ⟨(some 3), none, (.mv (.c (.str [])))⟩]) (.seq (.ops [⟨(some 4), none, (.mv (.c (.str [])))⟩]) (.seq (.ops [⟨(some 5), none, (.mv (.c (.bool false)))⟩]) (.seq (.seq (.ops [⟨(some 6), none, (.mv (.c (.int .i64 0)))⟩]) (.block 0 (.loop (.seq (.seq (.ops [⟨(some 8), none, (.mv (.t 6))⟩, ⟨(some 9), none, (.mv (.t 0))⟩, ⟨(some 10), none, (.len (.t 9))⟩, ⟨(some 11), none, (.bin .lss (.t 8) (.t 10))⟩, ⟨(some 12), none, (.mv (.t 11))⟩, ⟨(some 13), (some (12, true)), (.mv (.t 5))⟩, ⟨(some 14), (some (12, true)), (.nt (.t 13))⟩, ⟨(some 15), none, (.pick (.t 12) (.t 14) (.c (.bool false)))⟩]) (.cond (.t 15) .skip (.exit 0))) (.seq (.block 1 (.seq (.ops [⟨(some 18), none, (.mv (.t 0))⟩, ⟨(some 19), none, (.mv (.t 6))⟩, ⟨(some 20), none, (.ix 29 (.t 18) (.t 19))⟩, ⟨(some 21), none, (.fld 3 (.t 20))⟩, ⟨(some 22), none, (.ld false 1 (.t 21))⟩, ⟨(some 23), none, (.bin .eql (.t 22) (.c (.int .i64 1)))⟩]) (.cond (.t 23) (.seq (.ops [⟨(some 24), none, (.mv (.t 0))⟩, ⟨(some 25), none, (.mv (.t 6))⟩, ⟨(some 26), none, (.ix 29 (.t 24) (.t 25))⟩, ⟨(some 27), none, (.fld 2 (.t 26))⟩, ⟨(some 28), none, (.ld false 1 (.t 27))⟩, ⟨(some 4), none, (.mv (.t 28))⟩]) (.ops [⟨(some 5), none, (.mv (.c (.bool true)))⟩])) .skip))) (.ops [⟨(some 16), none, (.mv (.t 6))⟩, ⟨(some 17), none, (.bin .add (.t 16) (.c (.int .i64 1)))⟩, ⟨(some 6), none, (.mv (.t 17))⟩])))))) (.seq (.seq (.ops [⟨(some 7), none, (.mv (.c (.int .i64 0)))⟩]) (.block 2 (.loop (.seq (.seq (.ops [⟨(some 29), none, (.mv (.t 7))⟩, ⟨(some 30), none, (.mv (.t 0))⟩, ⟨(some 31), none, (.len (.t 30))⟩, ⟨(some 32), none, (.bin .lss (.t 29) (.t 31))⟩]) (.cond (.t 32) .skip (.exit 2))) (.seq (.block 3 (.seq (.ops [⟨(some 35), none, (.mv (.t 0))⟩, ⟨(some 36), none, (.mv (.t 7))⟩, ⟨(some 37), none, (.ix 29 (.t 35) (.t 36))⟩, ⟨(some 38), none, (.fld 3 (.t 37))⟩, ⟨(some 39), none, (.ld false 1 (.t 38))⟩, ⟨(some 40), none, (.bin .eql (.t 39) (.c (.int .i64 3)))⟩]) (.cond (.t 40) (.seq (.ops [⟨(some 41), none, (.mv (.t 0))⟩, ⟨(some 42), none, (.mv (.t 7))⟩, ⟨(some 43), none, (.ix 29 (.t 41) (.t 42))⟩, ⟨(some 44), none, (.fld 10 (.t 43))⟩, ⟨(some 45), none, (.fld 7 (.t 44))⟩, ⟨(some 46), none, (.ld true 9 (.t 45))⟩, ⟨(some 47), none, (.mv (.t 4))⟩, ⟨none, none, (.sto 9 (.t 2) (.t 46))⟩, ⟨(some 3), none, (.mv (.t 47))⟩]) .ret) .skip))) (.ops [⟨(some 33), none, (.mv (.t 7))⟩, ⟨(some 34), none, (.bin .add (.t 33) (.c (.int .i64 1)))⟩, ⟨(some 7), none, (.mv (.t 34))⟩])))))) (.seq (.ops [⟨(some 48), none, (.mv (.t 4))⟩, ⟨(some 49), none, (.call false 48 [(.t 48)])⟩, ⟨(some 50), none, (.mv (.t 4))⟩, ⟨none, none, (.sto 9 (.t 2) (.t 49))⟩, ⟨(some 3), none, (.mv (.t 50))⟩]) .ret))))))
theorem tr20 : Try.f20.body.bind (trCode Try.prog) = some (strip ac20) := by kernel_rfl
theorem spec20 (es : List Ev) : Spec Try.prog 20 [.fz (.sl 29 (es.map encEv))] (.fz (.tup [.agg (encLv (levelsL es)), .str (creatorL es)])) := by
  refine spec_at (n := 50) (ars := [(.c true 9 2), (.t 3)]) (ac := ac20) Try.func20 (by kernel_rfl) (by kernel_rfl) tr20 (by kernel_rfl) ?_
  unfold ac20
  simp -implicitDefEqProofs only [SD, SF, SL, e_nf, reduceCtorEq, implies_true, ↓reduceIte, Nat.reduceEqDiff, Nat.reduceAdd, Nat.reduceMul, Nat.reduceSub, Nat.reduceLeDiff, Nat.reduceLT, Int.reduceLT, Int.reduceLE, Int.reduceEq, Int.reduceToNat, Int.reduceAdd, Int.reduceSub, Int.reduceNeg, Int.reduceBEq, Int.reduceBNe, Nat.reduceBEq, Int.cast_ofNat_Int, decide_true, decide_false, ne_eq, eq_self_iff_true, beq_eq_false_iff_ne, bne_iff_ne, List.replicate]
  refine loop_q (X := List Ev × List Ev × (List UInt8 × Bool)) (fun n x => es = x.1 ++ x.2.1 ∧ n = x.2.1.length ∧ (creL es = (if x.2.2.2 = true then x.2.2.1 else creL x.2.1) ∧ (x.2.2.2 = false → x.2.2.1 = []))) (fun x => [(6, .int .i64 x.1.length), (4, .str x.2.2.1), (5, .bool x.2.2.2)]) (fun _ => []) [8, 9, 10, 11, 12, 13, 14, 15, 16, 17, 18, 19, 20, 21, 22, 23, 24, 25, 26, 27, 28] [] (es).length ([], es, ([], false)) ⟨rfl, rfl, by first | rfl | assumption | (simp_all [creL]; done) | grind [creL]⟩ ?_ ?_
  · simp -implicitDefEqProofs only [SD, SF, SL, e_nf, reduceCtorEq, implies_true, ↓reduceIte, Nat.reduceEqDiff, Nat.reduceAdd, Nat.reduceMul, Nat.reduceSub, Nat.reduceLeDiff, Nat.reduceLT, Int.reduceLT, Int.reduceLE, Int.reduceEq, Int.reduceToNat, Int.reduceAdd, Int.reduceSub, Int.reduceNeg, Int.reduceBEq, Int.reduceBNe, Nat.reduceBEq, Int.cast_ofNat_Int, decide_true, decide_false, ne_eq, eq_self_iff_true, beq_eq_false_iff_ne, bne_iff_ne, List.replicate, creL] <;> simp
  · rintro n ⟨pre1, rest1, a1⟩ ⟨he1, rfl, hI1⟩
    dsimp only at he1 hI1
    cases rest1 with
    | nil =>
      obtain rfl : es = pre1 := by simpa using he1
      clear he1
      have hlt1 : ¬ (((es).length : Int) < ((es).length : Int)) := Int.lt_irrefl _
      iterate 30 (all_goals (try (first
        | (with_reducible refine ite_in (fun _ => ?_) (fun _ => ?_))
        | (with_reducible refine ⟨fun _ => ?_, fun _ => ?_⟩)
        | (with_reducible refine And.intro ?_ ?_)
        | (with_reducible intro _)
        | (with_reducible exact is_in _)
        | (simp -implicitDefEqProofs only [SD, SF, SL, e_nf, reduceCtorEq, implies_true, ↓reduceIte, Nat.reduceEqDiff, Nat.reduceAdd, Nat.reduceMul, Nat.reduceSub, Nat.reduceLeDiff, Nat.reduceLT, Int.reduceLT, Int.reduceLE, Int.reduceEq, Int.reduceToNat, Int.reduceAdd, Int.reduceSub, Int.reduceNeg, Int.reduceBEq, Int.reduceBNe, Nat.reduceBEq, Int.cast_ofNat_Int, decide_true, decide_false, ne_eq, eq_self_iff_true, beq_eq_false_iff_ne, bne_iff_ne, List.replicate, creL, *]))))
      have hc : creatorL es = a1.1 := by
        rw [← creL_eq]
        rcases a1 with ⟨c0, _ | _⟩ <;> simp_all [creL]
      clear hI1
      refine loop_q (X := List Ev × List Ev × Unit) (fun n x => es = x.1 ++ x.2.1 ∧ n = x.2.1.length ∧ (findL es 3 = findL x.2.1 3)) (fun x => [(7, .int .i64 x.1.length)]) (fun _ => []) [3, 29, 30, 31, 32, 33, 34, 35, 36, 37, 38, 39, 40, 41, 42, 43, 44, 45, 46, 47] [] (es).length ([], es, ()) ⟨rfl, rfl, by first | rfl | assumption | (simp_all [findL]; done) | grind [findL]⟩ ?_ ?_
      · simp -implicitDefEqProofs only [SD, SF, SL, e_nf, reduceCtorEq, implies_true, ↓reduceIte, Nat.reduceEqDiff, Nat.reduceAdd, Nat.reduceMul, Nat.reduceSub, Nat.reduceLeDiff, Nat.reduceLT, Int.reduceLT, Int.reduceLE, Int.reduceEq, Int.reduceToNat, Int.reduceAdd, Int.reduceSub, Int.reduceNeg, Int.reduceBEq, Int.reduceBNe, Nat.reduceBEq, Int.cast_ofNat_Int, decide_true, decide_false, ne_eq, eq_self_iff_true, beq_eq_false_iff_ne, bne_iff_ne, List.replicate, findL, encLv] <;> simp
      · rintro n ⟨pre2, rest2, a2⟩ ⟨he2, rfl, hI2⟩
        dsimp only at he2 hI2
        cases rest2 with
        | nil =>
          obtain rfl : es = pre2 := by simpa using he2
          clear he2
          have hlt2 : ¬ (((es).length : Int) < ((es).length : Int)) := Int.lt_irrefl _
          iterate 30 (all_goals (try (first
            | ((with_reducible refine of_kSpec ?_); refine call_fz (spec48 _) rfl ?_)
            | (with_reducible refine ite_in (fun _ => ?_) (fun _ => ?_))
            | (with_reducible refine ⟨fun _ => ?_, fun _ => ?_⟩)
            | (with_reducible refine And.intro ?_ ?_)
            | (with_reducible intro _)
            | (with_reducible exact is_in _)
            | (simp -implicitDefEqProofs only [SD, SF, SL, e_nf, reduceCtorEq, implies_true, ↓reduceIte, Nat.reduceEqDiff, Nat.reduceAdd, Nat.reduceMul, Nat.reduceSub, Nat.reduceLeDiff, Nat.reduceLT, Int.reduceLT, Int.reduceLE, Int.reduceEq, Int.reduceToNat, Int.reduceAdd, Int.reduceSub, Int.reduceNeg, Int.reduceBEq, Int.reduceBNe, Nat.reduceBEq, Int.cast_ofNat_Int, decide_true, decide_false, ne_eq, eq_self_iff_true, beq_eq_false_iff_ne, bne_iff_ne, List.replicate, findL, encLv, *]))))
          all_goals (simp_all [levelsL, findL, encLv])

        | cons x2 rest2 =>
          have hlt2 := cut_lt he2
          have hx2 := cutD encEv he2
          simp only [encEv] at hx2
          simp -implicitDefEqProofs only [SD, SF, SL, e_nf, reduceCtorEq, implies_true, ↓reduceIte, Nat.reduceEqDiff, Nat.reduceAdd, Nat.reduceMul, Nat.reduceSub, Nat.reduceLeDiff, Nat.reduceLT, Int.reduceLT, Int.reduceLE, Int.reduceEq, Int.reduceToNat, Int.reduceAdd, Int.reduceSub, Int.reduceNeg, Int.reduceBEq, Int.reduceBNe, Nat.reduceBEq, Int.cast_ofNat_Int, decide_true, decide_false, ne_eq, eq_self_iff_true, beq_eq_false_iff_ne, bne_iff_ne, List.replicate, findL, encLv, hlt2]
          intro hl
          have hw2 := wrap_len (n := pre2.length) (m := (es).length) (cut_lt' he2) (by simpa using hl)
          replace he2 := Hd.mk he2
          iterate 30 (all_goals (try (first
            | ((with_reducible refine back_in rest2.length [3, 29, 30, 31, 32, 33, 34, 35, 36, 37, 38, 39, 40, 41, 42, 43, 44, 45, 46, 47] [] (pre2 ++ [x2], rest2, a2) ?_ ⟨?_, ?_, ?_⟩ ?_)
               · simp
               · exact cut_snoc he2.out
               · rfl
               · first | rfl | assumption | (simp_all [findL]; done) | grind [findL]
               · first | (simp -implicitDefEqProofs only [SD, SF, SL, e_nf, reduceCtorEq, implies_true, ↓reduceIte, Nat.reduceEqDiff, Nat.reduceAdd, Nat.reduceMul, Nat.reduceSub, Nat.reduceLeDiff, Nat.reduceLT, Int.reduceLT, Int.reduceLE, Int.reduceEq, Int.reduceToNat, Int.reduceAdd, Int.reduceSub, Int.reduceNeg, Int.reduceBEq, Int.reduceBNe, Nat.reduceBEq, Int.cast_ofNat_Int, decide_true, decide_false, ne_eq, eq_self_iff_true, beq_eq_false_iff_ne, bne_iff_ne, List.replicate, findL, encLv] <;> simp <;> done) | (simp -implicitDefEqProofs only [SD, SF, SL, e_nf, reduceCtorEq, implies_true, ↓reduceIte, Nat.reduceEqDiff, Nat.reduceAdd, Nat.reduceMul, Nat.reduceSub, Nat.reduceLeDiff, Nat.reduceLT, Int.reduceLT, Int.reduceLE, Int.reduceEq, Int.reduceToNat, Int.reduceAdd, Int.reduceSub, Int.reduceNeg, Int.reduceBEq, Int.reduceBNe, Nat.reduceBEq, Int.cast_ofNat_Int, decide_true, decide_false, ne_eq, eq_self_iff_true, beq_eq_false_iff_ne, bne_iff_ne, List.replicate, findL, encLv, *] <;> simp_all <;> done))
            | ((with_reducible refine of_kSpec ?_); refine call_fz (spec48 _) rfl ?_)
            | (with_reducible refine ite_in (fun _ => ?_) (fun _ => ?_))
            | (with_reducible refine ⟨fun _ => ?_, fun _ => ?_⟩)
            | (with_reducible refine And.intro ?_ ?_)
            | (with_reducible intro _)
            | (with_reducible exact is_in _)
            | (simp -implicitDefEqProofs only [SD, SF, SL, e_nf, reduceCtorEq, implies_true, ↓reduceIte, Nat.reduceEqDiff, Nat.reduceAdd, Nat.reduceMul, Nat.reduceSub, Nat.reduceLeDiff, Nat.reduceLT, Int.reduceLT, Int.reduceLE, Int.reduceEq, Int.reduceToNat, Int.reduceAdd, Int.reduceSub, Int.reduceNeg, Int.reduceBEq, Int.reduceBNe, Nat.reduceBEq, Int.cast_ofNat_Int, decide_true, decide_false, ne_eq, eq_self_iff_true, beq_eq_false_iff_ne, bne_iff_ne, List.replicate, findL, encLv, *]))))
          all_goals (simp_all [levelsL, findL, encLv])
    | cons x1 rest1 =>
      have hlt1 := cut_lt he1
      have hx1 := cutD encEv he1
      simp only [encEv] at hx1
      simp -implicitDefEqProofs only [SD, SF, SL, e_nf, reduceCtorEq, implies_true, ↓reduceIte, Nat.reduceEqDiff, Nat.reduceAdd, Nat.reduceMul, Nat.reduceSub, Nat.reduceLeDiff, Nat.reduceLT, Int.reduceLT, Int.reduceLE, Int.reduceEq, Int.reduceToNat, Int.reduceAdd, Int.reduceSub, Int.reduceNeg, Int.reduceBEq, Int.reduceBNe, Nat.reduceBEq, Int.cast_ofNat_Int, decide_true, decide_false, ne_eq, eq_self_iff_true, beq_eq_false_iff_ne, bne_iff_ne, List.replicate, creL, hlt1]
      intro hl
      have hw1 := wrap_len (n := pre1.length) (m := (es).length) (cut_lt' he1) (by simpa using hl)
      replace he1 := Hd.mk he1
      cases ha : a1.2
      all_goals (simp -implicitDefEqProofs only [SD, SF, SL, e_nf, reduceCtorEq, implies_true, ↓reduceIte, Nat.reduceEqDiff, Nat.reduceAdd, Nat.reduceMul, Nat.reduceSub, Nat.reduceLeDiff, Nat.reduceLT, Int.reduceLT, Int.reduceLE, Int.reduceEq, Int.reduceToNat, Int.reduceAdd, Int.reduceSub, Int.reduceNeg, Int.reduceBEq, Int.reduceBNe, Nat.reduceBEq, Int.cast_ofNat_Int, decide_true, decide_false, ne_eq, eq_self_iff_true, beq_eq_false_iff_ne, bne_iff_ne, List.replicate, *])
      iterate 30 (all_goals (try (first
        | ((with_reducible refine back_in rest1.length [8, 9, 10, 11, 12, 13, 14, 15, 16, 17, 18, 19, 20, 21, 22, 23, 24, 25, 26, 27, 28] [] (pre1 ++ [x1], rest1, a1) ?_ ⟨?_, ?_, ?_⟩ ?_)
           · simp
           · exact cut_snoc he1.out
           · rfl
           · first | rfl | assumption | (simp_all [creL]; done) | grind [creL]
           · first | (simp -implicitDefEqProofs only [SD, SF, SL, e_nf, reduceCtorEq, implies_true, ↓reduceIte, Nat.reduceEqDiff, Nat.reduceAdd, Nat.reduceMul, Nat.reduceSub, Nat.reduceLeDiff, Nat.reduceLT, Int.reduceLT, Int.reduceLE, Int.reduceEq, Int.reduceToNat, Int.reduceAdd, Int.reduceSub, Int.reduceNeg, Int.reduceBEq, Int.reduceBNe, Nat.reduceBEq, Int.cast_ofNat_Int, decide_true, decide_false, ne_eq, eq_self_iff_true, beq_eq_false_iff_ne, bne_iff_ne, List.replicate, creL] <;> simp <;> done) | (simp -implicitDefEqProofs only [SD, SF, SL, e_nf, reduceCtorEq, implies_true, ↓reduceIte, Nat.reduceEqDiff, Nat.reduceAdd, Nat.reduceMul, Nat.reduceSub, Nat.reduceLeDiff, Nat.reduceLT, Int.reduceLT, Int.reduceLE, Int.reduceEq, Int.reduceToNat, Int.reduceAdd, Int.reduceSub, Int.reduceNeg, Int.reduceBEq, Int.reduceBNe, Nat.reduceBEq, Int.cast_ofNat_Int, decide_true, decide_false, ne_eq, eq_self_iff_true, beq_eq_false_iff_ne, bne_iff_ne, List.replicate, creL, *] <;> simp_all <;> done))
        | ((with_reducible refine back_in rest1.length [8, 9, 10, 11, 12, 13, 14, 15, 16, 17, 18, 19, 20, 21, 22, 23, 24, 25, 26, 27, 28] [] (pre1 ++ [x1], rest1, (x1.sender, true)) ?_ ⟨?_, ?_, ?_⟩ ?_)
           · simp
           · exact cut_snoc he1.out
           · rfl
           · first | rfl | assumption | (simp_all [creL]; done) | grind [creL]
           · first | (simp -implicitDefEqProofs only [SD, SF, SL, e_nf, reduceCtorEq, implies_true, ↓reduceIte, Nat.reduceEqDiff, Nat.reduceAdd, Nat.reduceMul, Nat.reduceSub, Nat.reduceLeDiff, Nat.reduceLT, Int.reduceLT, Int.reduceLE, Int.reduceEq, Int.reduceToNat, Int.reduceAdd, Int.reduceSub, Int.reduceNeg, Int.reduceBEq, Int.reduceBNe, Nat.reduceBEq, Int.cast_ofNat_Int, decide_true, decide_false, ne_eq, eq_self_iff_true, beq_eq_false_iff_ne, bne_iff_ne, List.replicate, creL] <;> simp <;> done) | (simp -implicitDefEqProofs only [SD, SF, SL, e_nf, reduceCtorEq, implies_true, ↓reduceIte, Nat.reduceEqDiff, Nat.reduceAdd, Nat.reduceMul, Nat.reduceSub, Nat.reduceLeDiff, Nat.reduceLT, Int.reduceLT, Int.reduceLE, Int.reduceEq, Int.reduceToNat, Int.reduceAdd, Int.reduceSub, Int.reduceNeg, Int.reduceBEq, Int.reduceBNe, Nat.reduceBEq, Int.cast_ofNat_Int, decide_true, decide_false, ne_eq, eq_self_iff_true, beq_eq_false_iff_ne, bne_iff_ne, List.replicate, creL, *] <;> simp_all <;> done))
        | (with_reducible refine ite_in (fun _ => ?_) (fun _ => ?_))
        | (with_reducible refine ⟨fun _ => ?_, fun _ => ?_⟩)
        | (with_reducible refine And.intro ?_ ?_)
        | (with_reducible intro _)
        | (with_reducible exact is_in _)
        | (simp -implicitDefEqProofs only [SD, SF, SL, e_nf, reduceCtorEq, implies_true, ↓reduceIte, Nat.reduceEqDiff, Nat.reduceAdd, Nat.reduceMul, Nat.reduceSub, Nat.reduceLeDiff, Nat.reduceLT, Int.reduceLT, Int.reduceLE, Int.reduceEq, Int.reduceToNat, Int.reduceAdd, Int.reduceSub, Int.reduceNeg, Int.reduceBEq, Int.reduceBNe, Nat.reduceBEq, Int.cast_ofNat_Int, decide_true, decide_false, ne_eq, eq_self_iff_true, beq_eq_false_iff_ne, bne_iff_ne, List.replicate, creL, *]))))
      have hc : creatorL es = a1.1 := by
        rw [← creL_eq]
        simp_all
      clear hI1 hlt1 hx1 hw1 ha
      refine loop_q (X := List Ev × List Ev × Unit) (fun n x => es = x.1 ++ x.2.1 ∧ n = x.2.1.length ∧ (findL es 3 = findL x.2.1 3)) (fun x => [(7, .int .i64 x.1.length)]) (fun _ => []) [3, 29, 30, 31, 32, 33, 34, 35, 36, 37, 38, 39, 40, 41, 42, 43, 44, 45, 46, 47] [] (es).length ([], es, ()) ⟨rfl, rfl, by first | rfl | assumption | (simp_all [findL]; done) | grind [findL]⟩ ?_ ?_
      · simp -implicitDefEqProofs only [SD, SF, SL, e_nf, reduceCtorEq, implies_true, ↓reduceIte, Nat.reduceEqDiff, Nat.reduceAdd, Nat.reduceMul, Nat.reduceSub, Nat.reduceLeDiff, Nat.reduceLT, Int.reduceLT, Int.reduceLE, Int.reduceEq, Int.reduceToNat, Int.reduceAdd, Int.reduceSub, Int.reduceNeg, Int.reduceBEq, Int.reduceBNe, Nat.reduceBEq, Int.cast_ofNat_Int, decide_true, decide_false, ne_eq, eq_self_iff_true, beq_eq_false_iff_ne, bne_iff_ne, List.replicate, findL, encLv] <;> simp
      · rintro n ⟨pre2, rest2, a2⟩ ⟨he2, rfl, hI2⟩
        dsimp only at he2 hI2
        cases rest2 with
        | nil =>
          obtain rfl : es = pre2 := by simpa using he2
          clear he2
          have hlt2 : ¬ (((es).length : Int) < ((es).length : Int)) := Int.lt_irrefl _
          iterate 30 (all_goals (try (first
            | ((with_reducible refine of_kSpec ?_); refine call_fz (spec48 _) rfl ?_)
            | (with_reducible refine ite_in (fun _ => ?_) (fun _ => ?_))
            | (with_reducible refine ⟨fun _ => ?_, fun _ => ?_⟩)
            | (with_reducible refine And.intro ?_ ?_)
            | (with_reducible intro _)
            | (with_reducible exact is_in _)
            | (simp -implicitDefEqProofs only [SD, SF, SL, e_nf, reduceCtorEq, implies_true, ↓reduceIte, Nat.reduceEqDiff, Nat.reduceAdd, Nat.reduceMul, Nat.reduceSub, Nat.reduceLeDiff, Nat.reduceLT, Int.reduceLT, Int.reduceLE, Int.reduceEq, Int.reduceToNat, Int.reduceAdd, Int.reduceSub, Int.reduceNeg, Int.reduceBEq, Int.reduceBNe, Nat.reduceBEq, Int.cast_ofNat_Int, decide_true, decide_false, ne_eq, eq_self_iff_true, beq_eq_false_iff_ne, bne_iff_ne, List.replicate, findL, encLv, *]))))
          all_goals (simp_all [levelsL, findL, encLv])

        | cons x2 rest2 =>
          have hlt2 := cut_lt he2
          have hx2 := cutD encEv he2
          simp only [encEv] at hx2
          simp -implicitDefEqProofs only [SD, SF, SL, e_nf, reduceCtorEq, implies_true, ↓reduceIte, Nat.reduceEqDiff, Nat.reduceAdd, Nat.reduceMul, Nat.reduceSub, Nat.reduceLeDiff, Nat.reduceLT, Int.reduceLT, Int.reduceLE, Int.reduceEq, Int.reduceToNat, Int.reduceAdd, Int.reduceSub, Int.reduceNeg, Int.reduceBEq, Int.reduceBNe, Nat.reduceBEq, Int.cast_ofNat_Int, decide_true, decide_false, ne_eq, eq_self_iff_true, beq_eq_false_iff_ne, bne_iff_ne, List.replicate, findL, encLv, hlt2]
          intro hl
          have hw2 := wrap_len (n := pre2.length) (m := (es).length) (cut_lt' he2) (by simpa using hl)
          replace he2 := Hd.mk he2
          iterate 30 (all_goals (try (first
            | ((with_reducible refine back_in rest2.length [3, 29, 30, 31, 32, 33, 34, 35, 36, 37, 38, 39, 40, 41, 42, 43, 44, 45, 46, 47] [] (pre2 ++ [x2], rest2, a2) ?_ ⟨?_, ?_, ?_⟩ ?_)
               · simp
               · exact cut_snoc he2.out
               · rfl
               · first | rfl | assumption | (simp_all [findL]; done) | grind [findL]
               · first | (simp -implicitDefEqProofs only [SD, SF, SL, e_nf, reduceCtorEq, implies_true, ↓reduceIte, Nat.reduceEqDiff, Nat.reduceAdd, Nat.reduceMul, Nat.reduceSub, Nat.reduceLeDiff, Nat.reduceLT, Int.reduceLT, Int.reduceLE, Int.reduceEq, Int.reduceToNat, Int.reduceAdd, Int.reduceSub, Int.reduceNeg, Int.reduceBEq, Int.reduceBNe, Nat.reduceBEq, Int.cast_ofNat_Int, decide_true, decide_false, ne_eq, eq_self_iff_true, beq_eq_false_iff_ne, bne_iff_ne, List.replicate, findL, encLv] <;> simp <;> done) | (simp -implicitDefEqProofs only [SD, SF, SL, e_nf, reduceCtorEq, implies_true, ↓reduceIte, Nat.reduceEqDiff, Nat.reduceAdd, Nat.reduceMul, Nat.reduceSub, Nat.reduceLeDiff, Nat.reduceLT, Int.reduceLT, Int.reduceLE, Int.reduceEq, Int.reduceToNat, Int.reduceAdd, Int.reduceSub, Int.reduceNeg, Int.reduceBEq, Int.reduceBNe, Nat.reduceBEq, Int.cast_ofNat_Int, decide_true, decide_false, ne_eq, eq_self_iff_true, beq_eq_false_iff_ne, bne_iff_ne, List.replicate, findL, encLv, *] <;> simp_all <;> done))
            | ((with_reducible refine of_kSpec ?_); refine call_fz (spec48 _) rfl ?_)
            | (with_reducible refine ite_in (fun _ => ?_) (fun _ => ?_))
            | (with_reducible refine ⟨fun _ => ?_, fun _ => ?_⟩)
            | (with_reducible refine And.intro ?_ ?_)
            | (with_reducible intro _)
            | (with_reducible exact is_in _)
            | (simp -implicitDefEqProofs only [SD, SF, SL, e_nf, reduceCtorEq, implies_true, ↓reduceIte, Nat.reduceEqDiff, Nat.reduceAdd, Nat.reduceMul, Nat.reduceSub, Nat.reduceLeDiff, Nat.reduceLT, Int.reduceLT, Int.reduceLE, Int.reduceEq, Int.reduceToNat, Int.reduceAdd, Int.reduceSub, Int.reduceNeg, Int.reduceBEq, Int.reduceBNe, Nat.reduceBEq, Int.cast_ofNat_Int, decide_true, decide_false, ne_eq, eq_self_iff_true, beq_eq_false_iff_ne, bne_iff_ne, List.replicate, findL, encLv, *]))))
          all_goals (simp_all [levelsL, findL, encLv])

end Go.Proofs.Ytcpiaamaddfbcaa.E
