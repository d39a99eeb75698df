/-
  MdD: walks of functions of the program at data level.
-/
import Derived.Test.YtfcjmblhcakhaaaProg
import Derived.Test.YtfcjmblhcakhaaaEngZ
import Derived.Test.YtfcjmblhcakhaaaMdC
import Derived.Test.YtfcjmblhcakhaaaIns4
import Derived.KernelRfl
set_option linter.unusedVariables false
set_option linter.unusedSimpArgs false
namespace Go.Proofs.Ytfcjmblhcakhaaa.E
open Go
set_option maxHeartbeats 4000000
set_option maxRecDepth 100000
set_option linter.unusedSimpArgs false
set_option linter.unusedVariables false
attribute [local congr] c_wp c_ops c_op c_opS c_run c_runS c_dt c_seq c_blk c_loop c_S c_put c_bind c_mv c_pick c_nt c_ng c_bin c_binI c_binS c_beq c_B c_eqa c_hd c_cells c_blkK c_box c_vec c_mp c_mkm c_mput c_mlk c_mrm c_take c_ld c_ldF c_cellsK c_st c_fld c_fldv c_ix c_ixp c_ixv c_ixs c_sub c_subs c_len c_lens c_src c_dst c_ow c_app c_ext c_mm c_conv c_str c_isn c_fill c_rows c_boxo c_frz c_frzO c_frzA c_frzV c_spec c_specO c_opsP c_opP c_runP c_specP c_Z c_qretP c_fz c_fn c_gv c_cond c_res1 c_resL c_ret c_qret c_ite c_unr c_nx c_bk c_cut c_is
attribute [local irreducible] dwp
def ac35 : AC := (.seq (.ops [⟨(some 2), none, (.mv (.c .e0))⟩]) (.seq (.seq (.ops [⟨(some 3), none, (.mv (.t 0))⟩, ⟨(some 4), none, (.isn false (.t 3))⟩]) (.cond (.t 4) (.seq (.ops [⟨(some 2), none, (.mv (.c .e0))⟩]) .ret) .skip)) (.seq (.ops [⟨(some 5), none, (.buildSl 26 5 0 [(.str []), (.str []), (.int .i64 0), (.int .i64 0), (.int .i64 0)] [])⟩, ⟨(some 6), none, (.mv (.t 0))⟩, ⟨(some 7), none, (.app 26 5 56 (.t 5) (.t 6))⟩, ⟨(some 2), none, (.mv (.t 7))⟩]) .ret)))
theorem tr35 : Try.f35.body.bind (trCode Try.prog) = some (strip ac35) := by kernel_rfl
theorem spec35 (l : List Md) (hb : l.length ≤ 1000) : Spec Try.prog 35 [.fz (.sl 5 (l.map encMd))] (.own 26 5 (l.map encMd)) := by
  refine spec_at (n := 7) (ars := [(.t 2)]) (ac := ac35) Try.func35 (by kernel_rfl) (by kernel_rfl) tr35 (by kernel_rfl) ?_
  unfold ac35
  have h1 : l.length ≤ maxLen := by simp only [maxLen]; omega
  have h2 : l.length * 56 ≤ 140737488355328 := by omega
  iterate 30 (all_goals (try (first
    | (with_reducible refine ite_in (fun _ => ?_) (fun _ => ?_))
    | (with_reducible refine ⟨fun _ => ?_, fun _ => ?_⟩)
    | (with_reducible refine And.intro ?_ ?_)
    | (with_reducible intro _)
    | (with_reducible exact is_in _)
    | (simp -implicitDefEqProofs only [SD, SF, SL, e_nf, reduceCtorEq, implies_true, ↓reduceIte, Nat.reduceEqDiff, Nat.reduceAdd, Nat.reduceMul, Nat.reduceSub, Nat.reduceLeDiff, Nat.reduceLT, Int.reduceLT, Int.reduceLE, Int.reduceEq, Int.reduceToNat, Int.reduceAdd, Int.reduceSub, Int.reduceNeg, Int.reduceBEq, Int.reduceBNe, Nat.reduceBEq, Int.cast_ofNat_Int, decide_true, decide_false, ne_eq, eq_self_iff_true, beq_eq_false_iff_ne, bne_iff_ne, List.replicate, *]))))
  all_goals (simp_all)
def ac33 : AC := (.seq (.ops [⟨(some 3), none, (.box (.t 1))⟩, ⟨(some 4), none, (.mv (.c .e0))⟩]) (.seq (.ops [⟨(some 5), none, (.mv (.c (.int .i64 0)))⟩]) (.seq (.block 0 (.loop (.seq (.seq (.draw (.q true ⟨(some 6), none, (.mv (.t 5))⟩ (.q false ⟨(some 7), none, (.mv (.t 0))⟩ (.op ⟨(some 8), none, (.len (.t 7))⟩ (.q false ⟨(some 9), none, (.bin .lss (.t 6) (.t 8))⟩ (.q false ⟨(some 10), none, (.mv (.t 9))⟩ (.q false ⟨(some 11), (some (10, true)), (.mv (.t 0))⟩ (.q false ⟨(some 12), (some (10, true)), (.mv (.t 5))⟩ (.q false ⟨(some 13), (some (10, true)), (.ix 5 (.t 11) (.t 12))⟩ (.q false ⟨(some 14), (some (10, true)), (.ld true 5 (.t 13))⟩ (.q false ⟨(some 15), (some (10, true)), (.ld true 5 (.t 3))⟩ (.op ⟨(some 16), (some (10, true)), (.call false 30 [(.t 14), (.t 15)])⟩ (.q false ⟨(some 17), none, (.pick (.t 10) (.t 16) (.c (.bool false)))⟩ .nil))))))))))))) (.cond (.t 17) .skip (.exit 0))) (.block 1 (.ops [⟨(some 18), none, (.mv (.t 5))⟩, ⟨(some 19), none, (.bin .add (.t 18) (.c (.int .i64 1)))⟩, ⟨(some 5), none, (.mv (.t 19))⟩]))))) (.seq (.draw (.q false ⟨(some 20), none, (.mv (.t 0))⟩ (.q false ⟨(some 22), none, (.mv (.t 5))⟩ (.q false ⟨(some 23), none, (.ld true 5 (.t 3))⟩ (.alt (.op ⟨(some 21), none, (.call false 35 [(.t 20)])⟩ (.op ⟨(some 24), none, (.buildSl 26 5 1 [(.str []), (.str []), (.int .i64 0), (.int .i64 0), (.int .i64 0)] [(0, (.t 23))])⟩ (.op ⟨(some 25), none, (.call true 41 [(.t 21), (.t 22), (.t 24)])⟩ (.q false ⟨(some 4), none, (.mv (.t 25))⟩ .nil)))) (.op ⟨(some 24), none, (.buildSl 26 5 1 [(.str []), (.str []), (.int .i64 0), (.int .i64 0), (.int .i64 0)] [(0, (.t 23))])⟩ (.op ⟨(some 21), none, (.call false 35 [(.t 20)])⟩ (.op ⟨(some 25), none, (.call true 41 [(.t 21), (.t 22), (.t 24)])⟩ (.q false ⟨(some 4), none, (.mv (.t 25))⟩ .nil))))))))) .ret))))
theorem tr33 : Try.f33.body.bind (trCodeF Try.prog [25]) = some (strip ac33) := by kernel_rfl
theorem spec33 (l : List Md) (m : Md) (hb : l.length ≤ 1000) : Spec Try.prog 33 [.fz (.sl 5 (l.map encMd)), .fz (.agg (encMd m))] (.own 26 5 ((insL l m).map encMd)) := by
  refine spec_atF (n := 24) (ars := [(.t 4)]) (ac := ac33) [25] Try.func33 (by kernel_rfl) (by kernel_rfl) tr33 (by kernel_rfl) ?_
  unfold ac33
  simp -implicitDefEqProofs only [SD, SF, SL, e_nf, reduceCtorEq, implies_true, ↓reduceIte, Nat.reduceEqDiff, Nat.reduceAdd, Nat.reduceMul, Nat.reduceSub, Nat.reduceLeDiff, Nat.reduceLT, Int.reduceLT, Int.reduceLE, Int.reduceEq, Int.reduceToNat, Int.reduceAdd, Int.reduceSub, Int.reduceNeg, Int.reduceBEq, Int.reduceBNe, Nat.reduceBEq, Int.cast_ofNat_Int, decide_true, decide_false, ne_eq, eq_self_iff_true, beq_eq_false_iff_ne, bne_iff_ne, List.replicate, encMd]
  refine loop_q (X := List Md × List Md × Unit) (fun n x => l = x.1 ++ x.2.1 ∧ n = x.2.1.length ∧ (x.1.all (bm m) = true)) (fun x => [(5, .int .i64 x.1.length)]) (fun _ => []) [6, 7, 8, 9, 10, 11, 12, 13, 14, 15, 16, 17, 18, 19] []  (l).length ([], l, ()) ⟨rfl, rfl, by first | rfl | exact all_snoc hI (by simp_all [bm])⟩ ?_ ?_
  · simp -implicitDefEqProofs only [SD, SF, SL, e_nf, reduceCtorEq, implies_true, ↓reduceIte, Nat.reduceEqDiff, Nat.reduceAdd, Nat.reduceMul, Nat.reduceSub, Nat.reduceLeDiff, Nat.reduceLT, Int.reduceLT, Int.reduceLE, Int.reduceEq, Int.reduceToNat, Int.reduceAdd, Int.reduceSub, Int.reduceNeg, Int.reduceBEq, Int.reduceBNe, Nat.reduceBEq, Int.cast_ofNat_Int, decide_true, decide_false, ne_eq, eq_self_iff_true, beq_eq_false_iff_ne, bne_iff_ne, List.replicate, encMd] <;> simp
  · rintro n ⟨pre, rest, a⟩ ⟨he, rfl, hI⟩
    dsimp only at he hI
    cases rest with
    | nil =>
      obtain rfl : l = pre := by simpa using he
      clear he
      have hlt : ¬ (((l).length : Int) < ((l).length : Int)) := Int.lt_irrefl _
      iterate 30 (all_goals (try (first
        | ((with_reducible refine of_kSpec ?_); refine call_ow (spec35 l hb) rfl ?_)
        | ((with_reducible refine of_kSpecO ?_); refine callO_ow (ks := [21, 24]) (spec41 (l.map encMd) (encMd m) l.length (by simp) (by simpa using hb)) (by repeat (first | exact KArgs.nil | refine KArgs.fz rfl ?_ | refine KArgs.own rfl rfl ?_)) rfl ?_)
        | (with_reducible refine ite_in (fun _ => ?_) (fun _ => ?_))
        | (with_reducible refine ⟨fun _ => ?_, fun _ => ?_⟩)
        | (with_reducible refine And.intro ?_ ?_)
        | (with_reducible intro _)
        | (with_reducible exact is_in _)
        | (simp -implicitDefEqProofs only [SD, SF, SL, e_nf, reduceCtorEq, implies_true, ↓reduceIte, Nat.reduceEqDiff, Nat.reduceAdd, Nat.reduceMul, Nat.reduceSub, Nat.reduceLeDiff, Nat.reduceLT, Int.reduceLT, Int.reduceLE, Int.reduceEq, Int.reduceToNat, Int.reduceAdd, Int.reduceSub, Int.reduceNeg, Int.reduceBEq, Int.reduceBNe, Nat.reduceBEq, Int.cast_ofNat_Int, decide_true, decide_false, ne_eq, eq_self_iff_true, beq_eq_false_iff_ne, bne_iff_ne, List.replicate, encMd, encMd, *]))))
      all_goals ((rw [ins_at_end hI]; rfl))

    | cons x rest =>
      have hlt := cut_lt he
      have hx := cutD encMd he
      simp only [encMd] at hx
      simp -implicitDefEqProofs only [SD, SF, SL, e_nf, reduceCtorEq, implies_true, ↓reduceIte, Nat.reduceEqDiff, Nat.reduceAdd, Nat.reduceMul, Nat.reduceSub, Nat.reduceLeDiff, Nat.reduceLT, Int.reduceLT, Int.reduceLE, Int.reduceEq, Int.reduceToNat, Int.reduceAdd, Int.reduceSub, Int.reduceNeg, Int.reduceBEq, Int.reduceBNe, Nat.reduceBEq, Int.cast_ofNat_Int, decide_true, decide_false, ne_eq, eq_self_iff_true, beq_eq_false_iff_ne, bne_iff_ne, List.replicate, encMd, hlt]
      intro hl
      have hw := wrap_len (n := pre.length) (m := (l).length) (cut_lt' he) (by simpa using hl)
      replace he := Hd.mk he
      have hm5 : encMd m = encMd m := rfl
      iterate 30 (all_goals (try (first
        | ((with_reducible refine of_kSpec ?_); refine call_ow (spec35 l hb) rfl ?_)
        | ((with_reducible refine of_kSpecO ?_); refine callO_ow (ks := [21, 24]) (spec41 (l.map encMd) (encMd m) pre.length (by simp; have := cut_lt' he.out; omega) (by simpa using hb)) (by repeat (first | exact KArgs.nil | refine KArgs.fz rfl ?_ | refine KArgs.own rfl rfl ?_)) rfl ?_)
        | ((with_reducible refine back_in rest.length [6, 7, 8, 9, 10, 11, 12, 13, 14, 15, 16, 17, 18, 19] [] (pre ++ [x], rest, a) ?_ ⟨?_, ?_, ?_⟩ ?_)
           · simp
           · exact cut_snoc he.out
           · rfl
           · first | rfl | exact all_snoc hI (by simp_all [bm])
           · first | (simp -implicitDefEqProofs only [SD, SF, SL, e_nf, reduceCtorEq, implies_true, ↓reduceIte, Nat.reduceEqDiff, Nat.reduceAdd, Nat.reduceMul, Nat.reduceSub, Nat.reduceLeDiff, Nat.reduceLT, Int.reduceLT, Int.reduceLE, Int.reduceEq, Int.reduceToNat, Int.reduceAdd, Int.reduceSub, Int.reduceNeg, Int.reduceBEq, Int.reduceBNe, Nat.reduceBEq, Int.cast_ofNat_Int, decide_true, decide_false, ne_eq, eq_self_iff_true, beq_eq_false_iff_ne, bne_iff_ne, List.replicate, encMd] <;> simp <;> done) | (simp -implicitDefEqProofs only [SD, SF, SL, e_nf, reduceCtorEq, implies_true, ↓reduceIte, Nat.reduceEqDiff, Nat.reduceAdd, Nat.reduceMul, Nat.reduceSub, Nat.reduceLeDiff, Nat.reduceLT, Int.reduceLT, Int.reduceLE, Int.reduceEq, Int.reduceToNat, Int.reduceAdd, Int.reduceSub, Int.reduceNeg, Int.reduceBEq, Int.reduceBNe, Nat.reduceBEq, Int.cast_ofNat_Int, decide_true, decide_false, ne_eq, eq_self_iff_true, beq_eq_false_iff_ne, bne_iff_ne, List.replicate, encMd, *] <;> simp_all <;> done))
        | ((with_reducible refine of_kSpec ?_)
           refine call_sub (ds' := [.agg (encMd x), .agg (encMd m)]) (spec30 x m) rfl ?_ ?_
           · simp -implicitDefEqProofs only [SD, SF, SL, e_nf, reduceCtorEq, implies_true, ↓reduceIte, Nat.reduceEqDiff, Nat.reduceAdd, Nat.reduceMul, Nat.reduceSub, Nat.reduceLeDiff, Nat.reduceLT, Int.reduceLT, Int.reduceLE, Int.reduceEq, Int.reduceToNat, Int.reduceAdd, Int.reduceSub, Int.reduceNeg, Int.reduceBEq, Int.reduceBNe, Nat.reduceBEq, Int.cast_ofNat_Int, decide_true, decide_false, ne_eq, eq_self_iff_true, beq_eq_false_iff_ne, bne_iff_ne, List.replicate, encMd, *]
             done)
        | (with_reducible refine ite_in (fun _ => ?_) (fun _ => ?_))
        | (with_reducible refine ⟨fun _ => ?_, fun _ => ?_⟩)
        | (with_reducible refine And.intro ?_ ?_)
        | (with_reducible intro _)
        | (with_reducible exact is_in _)
        | (simp -implicitDefEqProofs only [SD, SF, SL, e_nf, reduceCtorEq, implies_true, ↓reduceIte, Nat.reduceEqDiff, Nat.reduceAdd, Nat.reduceMul, Nat.reduceSub, Nat.reduceLeDiff, Nat.reduceLT, Int.reduceLT, Int.reduceLE, Int.reduceEq, Int.reduceToNat, Int.reduceAdd, Int.reduceSub, Int.reduceNeg, Int.reduceBEq, Int.reduceBNe, Nat.reduceBEq, Int.cast_ofNat_Int, decide_true, decide_false, ne_eq, eq_self_iff_true, beq_eq_false_iff_ne, bne_iff_ne, List.replicate, encMd, *]))))
      all_goals ((have hq := ins_at (m := m) he.out hI (by simp_all [bm]); rw [hq]; rfl))

end Go.Proofs.Ytfcjmblhcakhaaa.E
