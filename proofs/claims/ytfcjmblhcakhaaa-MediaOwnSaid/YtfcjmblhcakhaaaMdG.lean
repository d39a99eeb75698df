/-
  MdG: walks of functions of the program at data level.
-/
import Derived.Test.YtfcjmblhcakhaaaProg
import Derived.Test.YtfcjmblhcakhaaaEngZ
import Derived.Test.YtfcjmblhcakhaaaMdF
import Derived.KernelRfl
set_option linter.unusedVariables false
set_option linter.unusedSimpArgs false
namespace Go.Proofs.Ytfcjmblhcakhaaa.E
open Go
set_option maxHeartbeats 4000000
set_option maxRecDepth 100000
set_option linter.unusedSimpArgs false
set_option linter.unusedVariables false
attribute [local congr] c_wp c_ops c_op c_opS c_run c_runS c_dt c_seq c_blk c_loop c_S c_put c_bind c_mv c_pick c_nt c_ng c_bin c_binI c_binS c_beq c_B c_eqa c_hd c_cells c_blkK c_box c_vec c_mp c_mkm c_mput c_mlk c_mrm c_take c_ld c_ldF c_cellsK c_st c_fld c_fldv c_ix c_ixp c_ixv c_ixs c_sub c_subs c_len c_lens c_src c_dst c_ow c_app c_ext c_mm c_conv c_str c_isn c_fill c_rows c_boxo c_frz c_frzO c_frzA c_frzV c_spec c_specO c_opsP c_opP c_runP c_specP c_Z c_qretP c_fz c_fn c_gv c_cond c_res1 c_resL c_ret c_qret c_ite c_unr c_nx c_bk c_cut c_is
attribute [local irreducible] dwp
def ac11 : AC := (.seq (.ops [⟨(some 6), none, (.alloc [(.str []), (.str []), (.int .i64 0), (.int .i64 0), (.int .i64 0)])⟩, ⟨(some 7), none, (.mv (.c (.bool false)))⟩]) (.seq (.ops [⟨(some 9), none, (.mv (.t 0))⟩, ⟨(some 10), none, (.mv (.t 1))⟩, ⟨(some 11), none, (.mv (.t 2))⟩, ⟨(some 12), none, (.call false 27 [(.t 9), (.t 10), (.t 11)])⟩, ⟨(some 8), none, (.mv (.t 12))⟩]) (.seq (.seq (.ops [⟨(some 13), none, (.mv (.t 8))⟩, ⟨(some 14), none, (.bin .lss (.t 13) (.c (.int .i64 0)))⟩]) (.cond (.t 14) (.seq (.ops [⟨(some 15), none, (.build [(.str []), (.str []), (.int .i64 0), (.int .i64 0), (.int .i64 0)] [])⟩, ⟨none, none, (.sto 5 (.t 6) (.t 15))⟩, ⟨(some 7), none, (.mv (.c (.bool false)))⟩]) .ret) .skip)) (.seq (.ops [⟨(some 16), none, (.mv (.t 0))⟩, ⟨(some 17), none, (.mv (.t 8))⟩, ⟨(some 18), none, (.ix 5 (.t 16) (.t 17))⟩, ⟨(some 19), none, (.ld true 5 (.t 18))⟩, ⟨none, none, (.sto 5 (.t 6) (.t 19))⟩, ⟨(some 7), none, (.mv (.c (.bool true)))⟩]) .ret))))
theorem tr11 : Try.f11.body.bind (trCode Try.prog) = some (strip ac11) := by kernel_rfl
theorem spec11 (l : List Md) (u v : List UInt8) : Spec Try.prog 11 [.fz (.sl 5 (l.map encMd)), .fz (.str u), .fz (.str v)] (.fz (.tup [.agg (encMd (getR l u v).1), .bool (getR l u v).2])) := by
  refine spec_at (n := 17) (ars := [(.c true 5 6), (.t 7)]) (ac := ac11) Try.func11 (by kernel_rfl) (by kernel_rfl) tr11 (by kernel_rfl) ?_
  unfold ac11
  rcases place_cases l u v 0 with ⟨hp, hf⟩ | ⟨pre, x, rest, he, hp, hf, hu, hsv, hnm⟩
  · skip
    iterate 30 (all_goals (try (first
      | ((with_reducible refine of_kSpec ?_); refine call_fz (spec27 l u v) rfl ?_)
      | (with_reducible refine ite_in (fun _ => ?_) (fun _ => ?_))
      | (with_reducible refine ⟨fun _ => ?_, fun _ => ?_⟩)
      | (with_reducible refine And.intro ?_ ?_)
      | (with_reducible intro _)
      | (with_reducible exact is_in _)
      | (simp -implicitDefEqProofs only [SD, SF, SL, e_nf, reduceCtorEq, implies_true, ↓reduceIte, Nat.reduceEqDiff, Nat.reduceAdd, Nat.reduceMul, Nat.reduceSub, Nat.reduceLeDiff, Nat.reduceLT, Int.reduceLT, Int.reduceLE, Int.reduceEq, Int.reduceToNat, Int.reduceAdd, Int.reduceSub, Int.reduceNeg, Int.reduceBEq, Int.reduceBNe, Nat.reduceBEq, Int.cast_ofNat_Int, decide_true, decide_false, ne_eq, eq_self_iff_true, beq_eq_false_iff_ne, bne_iff_ne, List.replicate, encMd, *]))))
    all_goals (first | (simp_all [getR, zeroMd, encMd]; done) | omega | (simp_all [getR, zeroMd, encMd]; omega))
  · rw [Nat.zero_add] at hp
    have hx := cutD encMd he
    simp only [encMd] at hx
    have hlt := cut_lt he
    have hlt2 := cut_lt' he
    have hge : ¬ ((pre.length : Int) < 0) := by omega
    obtain ⟨hg1, hs1, hl1⟩ := set_facts he
    replace he := Hd.mk he
    replace hsv := Hd.mk hsv
    replace hnm := Hd.mk hnm
    iterate 30 (all_goals (try (first
      | ((with_reducible refine of_kSpec ?_); refine call_fz (spec27 l u v) rfl ?_)
      | (with_reducible refine ite_in (fun _ => ?_) (fun _ => ?_))
      | (with_reducible refine ⟨fun _ => ?_, fun _ => ?_⟩)
      | (with_reducible refine And.intro ?_ ?_)
      | (with_reducible intro _)
      | (with_reducible exact is_in _)
      | (simp -implicitDefEqProofs only [SD, SF, SL, e_nf, reduceCtorEq, implies_true, ↓reduceIte, Nat.reduceEqDiff, Nat.reduceAdd, Nat.reduceMul, Nat.reduceSub, Nat.reduceLeDiff, Nat.reduceLT, Int.reduceLT, Int.reduceLE, Int.reduceEq, Int.reduceToNat, Int.reduceAdd, Int.reduceSub, Int.reduceNeg, Int.reduceBEq, Int.reduceBNe, Nat.reduceBEq, Int.cast_ofNat_Int, decide_true, decide_false, ne_eq, eq_self_iff_true, beq_eq_false_iff_ne, bne_iff_ne, List.replicate, encMd, *]))))
    all_goals (first | (simp_all [getR, zeroMd, encMd]; done) | omega | (simp_all [getR, zeroMd, encMd]; omega))

def ac12 : AC := (.seq (.ops [⟨(some 6), none, (.alloc [(.str []), (.str []), (.int .i64 0), (.int .i64 0), (.int .i64 0)])⟩, ⟨(some 7), none, (.mv (.c (.bool false)))⟩]) (.seq (.ops [⟨(some 9), none, (.mv (.t 0))⟩, ⟨(some 10), none, (.mv (.t 1))⟩, ⟨(some 11), none, (.mv (.t 2))⟩, ⟨(some 12), none, (.call false 28 [(.t 9), (.t 10), (.t 11)])⟩, ⟨(some 8), none, (.mv (.t 12))⟩]) (.seq (.seq (.ops [⟨(some 13), none, (.mv (.t 8))⟩, ⟨(some 14), none, (.bin .lss (.t 13) (.c (.int .i64 0)))⟩]) (.cond (.t 14) (.seq (.ops [⟨(some 15), none, (.build [(.str []), (.str []), (.int .i64 0), (.int .i64 0), (.int .i64 0)] [])⟩, ⟨none, none, (.sto 5 (.t 6) (.t 15))⟩, ⟨(some 7), none, (.mv (.c (.bool false)))⟩]) .ret) .skip)) (.seq (.ops [⟨(some 16), none, (.mv (.t 0))⟩, ⟨(some 17), none, (.mv (.t 8))⟩, ⟨(some 18), none, (.ix 5 (.t 16) (.t 17))⟩, ⟨(some 19), none, (.ld true 5 (.t 18))⟩, ⟨none, none, (.sto 5 (.t 6) (.t 19))⟩, ⟨(some 7), none, (.mv (.c (.bool true)))⟩]) .ret))))
theorem tr12 : Try.f12.body.bind (trCode Try.prog) = some (strip ac12) := by kernel_rfl
theorem spec12 (l : List Md) (u v : List UInt8) : Spec Try.prog 12 [.fz (.sl 5 (l.map encMd)), .fz (.str u), .fz (.str v)] (.fz (.tup [.agg (encMd (getR l u v).1), .bool (getR l u v).2])) := by
  refine spec_at (n := 17) (ars := [(.c true 5 6), (.t 7)]) (ac := ac12) Try.func12 (by kernel_rfl) (by kernel_rfl) tr12 (by kernel_rfl) ?_
  unfold ac12
  rcases place_cases l u v 0 with ⟨hp, hf⟩ | ⟨pre, x, rest, he, hp, hf, hu, hsv, hnm⟩
  · skip
    iterate 30 (all_goals (try (first
      | ((with_reducible refine of_kSpec ?_); refine call_fz (spec28 l u v) rfl ?_)
      | (with_reducible refine ite_in (fun _ => ?_) (fun _ => ?_))
      | (with_reducible refine ⟨fun _ => ?_, fun _ => ?_⟩)
      | (with_reducible refine And.intro ?_ ?_)
      | (with_reducible intro _)
      | (with_reducible exact is_in _)
      | (simp -implicitDefEqProofs only [SD, SF, SL, e_nf, reduceCtorEq, implies_true, ↓reduceIte, Nat.reduceEqDiff, Nat.reduceAdd, Nat.reduceMul, Nat.reduceSub, Nat.reduceLeDiff, Nat.reduceLT, Int.reduceLT, Int.reduceLE, Int.reduceEq, Int.reduceToNat, Int.reduceAdd, Int.reduceSub, Int.reduceNeg, Int.reduceBEq, Int.reduceBNe, Nat.reduceBEq, Int.cast_ofNat_Int, decide_true, decide_false, ne_eq, eq_self_iff_true, beq_eq_false_iff_ne, bne_iff_ne, List.replicate, encMd, *]))))
    all_goals (first | (simp_all [getR, zeroMd, encMd]; done) | omega | (simp_all [getR, zeroMd, encMd]; omega))
  · rw [Nat.zero_add] at hp
    have hx := cutD encMd he
    simp only [encMd] at hx
    have hlt := cut_lt he
    have hlt2 := cut_lt' he
    have hge : ¬ ((pre.length : Int) < 0) := by omega
    obtain ⟨hg1, hs1, hl1⟩ := set_facts he
    replace he := Hd.mk he
    replace hsv := Hd.mk hsv
    replace hnm := Hd.mk hnm
    iterate 30 (all_goals (try (first
      | ((with_reducible refine of_kSpec ?_); refine call_fz (spec28 l u v) rfl ?_)
      | (with_reducible refine ite_in (fun _ => ?_) (fun _ => ?_))
      | (with_reducible refine ⟨fun _ => ?_, fun _ => ?_⟩)
      | (with_reducible refine And.intro ?_ ?_)
      | (with_reducible intro _)
      | (with_reducible exact is_in _)
      | (simp -implicitDefEqProofs only [SD, SF, SL, e_nf, reduceCtorEq, implies_true, ↓reduceIte, Nat.reduceEqDiff, Nat.reduceAdd, Nat.reduceMul, Nat.reduceSub, Nat.reduceLeDiff, Nat.reduceLT, Int.reduceLT, Int.reduceLE, Int.reduceEq, Int.reduceToNat, Int.reduceAdd, Int.reduceSub, Int.reduceNeg, Int.reduceBEq, Int.reduceBNe, Nat.reduceBEq, Int.cast_ofNat_Int, decide_true, decide_false, ne_eq, eq_self_iff_true, beq_eq_false_iff_ne, bne_iff_ne, List.replicate, encMd, *]))))
    all_goals (first | (simp_all [getR, zeroMd, encMd]; done) | omega | (simp_all [getR, zeroMd, encMd]; omega))

def ac15 : AC := (.seq (.ops [⟨(some 2), none, (.mv (.c (.int .i64 0)))⟩]) (.seq (.seq (.ops [⟨(some 6), none, (.mv (.t 0))⟩, ⟨(some 7), none, (.call false 13 [(.t 6)])⟩, ⟨(some 8), none, (.bin .neq (.t 7) (.c (.int .i64 0)))⟩]) (.cond (.t 8) (.seq (.ops [⟨(some 2), none, (.mv (.c (.int .i64 0)))⟩]) .ret) .skip)) (.seq (.ops [⟨(some 3), none, (.mv (.c (.int .i64 0)))⟩]) (.seq (.seq (.ops [⟨(some 9), none, (.mv (.t 0))⟩, ⟨(some 10), none, (.len (.t 9))⟩, ⟨(some 11), none, (.mv (.c (.int .i64 0)))⟩]) (.block 0 (.loop (.seq (.ops [⟨(some 12), none, (.bin .lss (.t 11) (.t 10))⟩]) (.seq (.cond (.t 12) .skip (.exit 0)) (.seq (.block 1 (.seq (.ops [⟨(some 13), none, (.ix 5 (.t 9) (.t 11))⟩, ⟨(some 14), none, (.ld true 5 (.t 13))⟩, ⟨(some 5), none, (.alloc [(.str []), (.str []), (.int .i64 0), (.int .i64 0), (.int .i64 0)])⟩, ⟨none, none, (.sto 5 (.t 5) (.t 14))⟩]) (.seq (.ops [⟨(some 15), none, (.fld 4 (.t 5))⟩, ⟨(some 16), none, (.ld false 1 (.t 15))⟩, ⟨(some 17), none, (.bin .eql (.t 16) (.c (.int .i64 1)))⟩]) (.cond (.t 17) (.ops [⟨(some 18), none, (.mv (.t 3))⟩, ⟨(some 19), none, (.fld 2 (.t 5))⟩, ⟨(some 20), none, (.ld false 1 (.t 19))⟩, ⟨(some 21), none, (.bin .add (.t 18) (.t 20))⟩, ⟨(some 3), none, (.mv (.t 21))⟩]) .skip)))) (.ops [⟨(some 22), none, (.bin .add (.t 11) (.c (.int .i64 1)))⟩, ⟨(some 11), none, (.mv (.t 22))⟩]))))))) (.seq (.ops [⟨(some 23), none, (.mv (.t 3))⟩, ⟨(some 2), none, (.mv (.t 23))⟩]) .ret)))))
theorem tr15 : Try.f15.body.bind (trCode Try.prog) = some (strip ac15) := by kernel_rfl
theorem spec15 (l : List Md) : Spec Try.prog 15 [.fz (.sl 5 (l.map encMd))] (.fz (.int .i64 (totR l))) := by
  refine spec_at (n := 23) (ars := [(.t 2)]) (ac := ac15) Try.func15 (by kernel_rfl) (by kernel_rfl) tr15 (by kernel_rfl) ?_
  unfold ac15
  iterate 10 (all_goals (try (first
    | ((with_reducible refine of_kSpec ?_); refine call_fz (spec13 l) rfl ?_)
    | (with_reducible refine ite_in (fun _ => ?_) (fun _ => ?_))
    | (with_reducible refine ⟨fun _ => ?_, fun _ => ?_⟩)
    | (with_reducible refine And.intro ?_ ?_)
    | (with_reducible intro _)
    | (with_reducible exact is_in _)
    | ((with_reducible refine eq_in ?_); (simp_all [totR]); done)
    | (simp -implicitDefEqProofs only [SD, SF, SL, e_nf, reduceCtorEq, implies_true, ↓reduceIte, Nat.reduceEqDiff, Nat.reduceAdd, Nat.reduceMul, Nat.reduceSub, Nat.reduceLeDiff, Nat.reduceLT, Int.reduceLT, Int.reduceLE, Int.reduceEq, Int.reduceToNat, Int.reduceAdd, Int.reduceSub, Int.reduceNeg, Int.reduceBEq, Int.reduceBNe, Nat.reduceBEq, Int.cast_ofNat_Int, decide_true, decide_false, ne_eq, eq_self_iff_true, beq_eq_false_iff_ne, bne_iff_ne, List.replicate, totR, *]))))
  rename_i hck hl
  refine loop_q (X := List Md × List Md × Int) (fun n x => l = x.1 ++ x.2.1 ∧ n = x.2.1.length ∧ (totF 0 l = totF x.2.2 x.2.1)) (fun x => [(11, .int .i64 x.1.length), (3, .int .i64 x.2.2)]) (fun _ => []) [5, 12, 13, 14, 15, 16, 17, 18, 19, 20, 21, 22] [5]  (l).length ([], l, 0) ⟨rfl, rfl, by first | rfl | (simp_all [totF]; done)⟩ ?_ ?_
  · simp -implicitDefEqProofs only [SD, SF, SL, e_nf, reduceCtorEq, implies_true, ↓reduceIte, Nat.reduceEqDiff, Nat.reduceAdd, Nat.reduceMul, Nat.reduceSub, Nat.reduceLeDiff, Nat.reduceLT, Int.reduceLT, Int.reduceLE, Int.reduceEq, Int.reduceToNat, Int.reduceAdd, Int.reduceSub, Int.reduceNeg, Int.reduceBEq, Int.reduceBNe, Nat.reduceBEq, Int.cast_ofNat_Int, decide_true, decide_false, ne_eq, eq_self_iff_true, beq_eq_false_iff_ne, bne_iff_ne, List.replicate, encMd, totF, totR] <;> simp
  · rintro n ⟨pre, rest, a⟩ ⟨he, rfl, hI⟩
    dsimp only at he hI
    cases rest with
    | nil =>
      obtain rfl : l = pre := by simpa using he
      clear he
      have hlt : ¬ (((l).length : Int) < ((l).length : Int)) := Int.lt_irrefl _
      iterate 30 (all_goals (try (first
        | (with_reducible refine ite_in (fun _ => ?_) (fun _ => ?_))
        | (with_reducible refine ⟨fun _ => ?_, fun _ => ?_⟩)
        | (with_reducible refine And.intro ?_ ?_)
        | (with_reducible intro _)
        | (with_reducible exact is_in _)
        | (simp -implicitDefEqProofs only [SD, SF, SL, e_nf, reduceCtorEq, implies_true, ↓reduceIte, Nat.reduceEqDiff, Nat.reduceAdd, Nat.reduceMul, Nat.reduceSub, Nat.reduceLeDiff, Nat.reduceLT, Int.reduceLT, Int.reduceLE, Int.reduceEq, Int.reduceToNat, Int.reduceAdd, Int.reduceSub, Int.reduceNeg, Int.reduceBEq, Int.reduceBNe, Nat.reduceBEq, Int.cast_ofNat_Int, decide_true, decide_false, ne_eq, eq_self_iff_true, beq_eq_false_iff_ne, bne_iff_ne, List.replicate, encMd, totF, totR, *]))))
      all_goals (simp_all [totR, totF])

    | cons x rest =>
      have hlt := cut_lt he
      have hx := cutD encMd he
      simp only [encMd] at hx
      have hw := wrap_len (n := pre.length) (m := (l).length) (cut_lt' he) (by simpa using hl)
      replace he := Hd.mk he
      iterate 30 (all_goals (try (first
        | ((with_reducible refine back_in rest.length [5, 12, 13, 14, 15, 16, 17, 18, 19, 20, 21, 22] [5] (pre ++ [x], rest, a) ?_ ⟨?_, ?_, ?_⟩ ?_)
           · simp
           · exact cut_snoc he.out
           · rfl
           · first | rfl | (simp_all [totF]; done)
           · first | (simp -implicitDefEqProofs only [SD, SF, SL, e_nf, reduceCtorEq, implies_true, ↓reduceIte, Nat.reduceEqDiff, Nat.reduceAdd, Nat.reduceMul, Nat.reduceSub, Nat.reduceLeDiff, Nat.reduceLT, Int.reduceLT, Int.reduceLE, Int.reduceEq, Int.reduceToNat, Int.reduceAdd, Int.reduceSub, Int.reduceNeg, Int.reduceBEq, Int.reduceBNe, Nat.reduceBEq, Int.cast_ofNat_Int, decide_true, decide_false, ne_eq, eq_self_iff_true, beq_eq_false_iff_ne, bne_iff_ne, List.replicate, encMd, totF, totR] <;> simp <;> done) | (simp -implicitDefEqProofs only [SD, SF, SL, e_nf, reduceCtorEq, implies_true, ↓reduceIte, Nat.reduceEqDiff, Nat.reduceAdd, Nat.reduceMul, Nat.reduceSub, Nat.reduceLeDiff, Nat.reduceLT, Int.reduceLT, Int.reduceLE, Int.reduceEq, Int.reduceToNat, Int.reduceAdd, Int.reduceSub, Int.reduceNeg, Int.reduceBEq, Int.reduceBNe, Nat.reduceBEq, Int.cast_ofNat_Int, decide_true, decide_false, ne_eq, eq_self_iff_true, beq_eq_false_iff_ne, bne_iff_ne, List.replicate, encMd, totF, totR, *] <;> simp_all <;> done))
        | ((with_reducible refine back_in rest.length [5, 12, 13, 14, 15, 16, 17, 18, 19, 20, 21, 22] [5] (pre ++ [x], rest, IntKind.i64.wrap (a + x.size)) ?_ ⟨?_, ?_, ?_⟩ ?_)
           · simp
           · exact cut_snoc he.out
           · rfl
           · first | rfl | (simp_all [totF]; done)
           · first | (simp -implicitDefEqProofs only [SD, SF, SL, e_nf, reduceCtorEq, implies_true, ↓reduceIte, Nat.reduceEqDiff, Nat.reduceAdd, Nat.reduceMul, Nat.reduceSub, Nat.reduceLeDiff, Nat.reduceLT, Int.reduceLT, Int.reduceLE, Int.reduceEq, Int.reduceToNat, Int.reduceAdd, Int.reduceSub, Int.reduceNeg, Int.reduceBEq, Int.reduceBNe, Nat.reduceBEq, Int.cast_ofNat_Int, decide_true, decide_false, ne_eq, eq_self_iff_true, beq_eq_false_iff_ne, bne_iff_ne, List.replicate, encMd, totF, totR] <;> simp <;> done) | (simp -implicitDefEqProofs only [SD, SF, SL, e_nf, reduceCtorEq, implies_true, ↓reduceIte, Nat.reduceEqDiff, Nat.reduceAdd, Nat.reduceMul, Nat.reduceSub, Nat.reduceLeDiff, Nat.reduceLT, Int.reduceLT, Int.reduceLE, Int.reduceEq, Int.reduceToNat, Int.reduceAdd, Int.reduceSub, Int.reduceNeg, Int.reduceBEq, Int.reduceBNe, Nat.reduceBEq, Int.cast_ofNat_Int, decide_true, decide_false, ne_eq, eq_self_iff_true, beq_eq_false_iff_ne, bne_iff_ne, List.replicate, encMd, totF, totR, *] <;> simp_all <;> done))
        | (with_reducible refine ite_in (fun _ => ?_) (fun _ => ?_))
        | (with_reducible refine ⟨fun _ => ?_, fun _ => ?_⟩)
        | (with_reducible refine And.intro ?_ ?_)
        | (with_reducible intro _)
        | (with_reducible exact is_in _)
        | (simp -implicitDefEqProofs only [SD, SF, SL, e_nf, reduceCtorEq, implies_true, ↓reduceIte, Nat.reduceEqDiff, Nat.reduceAdd, Nat.reduceMul, Nat.reduceSub, Nat.reduceLeDiff, Nat.reduceLT, Int.reduceLT, Int.reduceLE, Int.reduceEq, Int.reduceToNat, Int.reduceAdd, Int.reduceSub, Int.reduceNeg, Int.reduceBEq, Int.reduceBNe, Nat.reduceBEq, Int.cast_ofNat_Int, decide_true, decide_false, ne_eq, eq_self_iff_true, beq_eq_false_iff_ne, bne_iff_ne, List.replicate, encMd, totF, totR, *]))))
      all_goals (simp_all [totR, totF])
def ac16 : AC := (.seq (.ops [⟨(some 2), none, (.mv (.c (.int .i64 0)))⟩]) (.seq (.seq (.ops [⟨(some 5), none, (.mv (.t 0))⟩, ⟨(some 6), none, (.call false 14 [(.t 5)])⟩, ⟨(some 7), none, (.bin .neq (.t 6) (.c (.int .i64 0)))⟩]) (.cond (.t 7) (.seq (.ops [⟨(some 2), none, (.mv (.c (.int .i64 0)))⟩]) .ret) .skip)) (.seq (.ops [⟨(some 3), none, (.mv (.c (.int .i64 0)))⟩]) (.seq (.seq (.ops [⟨(some 4), none, (.mv (.c (.int .i64 0)))⟩]) (.block 0 (.loop (.seq (.seq (.ops [⟨(some 8), none, (.mv (.t 4))⟩, ⟨(some 9), none, (.mv (.t 0))⟩, ⟨(some 10), none, (.len (.t 9))⟩, ⟨(some 11), none, (.bin .lss (.t 8) (.t 10))⟩]) (.cond (.t 11) .skip (.exit 0))) (.seq (.block 1 (.seq (.ops [⟨(some 14), none, (.mv (.t 0))⟩, ⟨(some 15), none, (.mv (.t 4))⟩, ⟨(some 16), none, (.ix 5 (.t 14) (.t 15))⟩, ⟨(some 17), none, (.fld 4 (.t 16))⟩, ⟨(some 18), none, (.ld false 1 (.t 17))⟩, ⟨(some 19), none, (.bin .eql (.t 18) (.c (.int .i64 1)))⟩]) (.cond (.t 19) (.ops [⟨(some 20), none, (.mv (.t 3))⟩, ⟨(some 21), none, (.mv (.t 0))⟩, ⟨(some 22), none, (.mv (.t 4))⟩, ⟨(some 23), none, (.ix 5 (.t 21) (.t 22))⟩, ⟨(some 24), none, (.fld 2 (.t 23))⟩, ⟨(some 25), none, (.ld false 1 (.t 24))⟩, ⟨(some 26), none, (.bin .add (.t 20) (.t 25))⟩, ⟨(some 3), none, (.mv (.t 26))⟩]) .skip))) (.ops [⟨(some 12), none, (.mv (.t 4))⟩, ⟨(some 13), none, (.bin .add (.t 12) (.c (.int .i64 1)))⟩, ⟨(some 4), none, (.mv (.t 13))⟩])))))) (.seq (.ops [⟨(some 27), none, (.mv (.t 3))⟩, ⟨(some 2), none, (.mv (.t 27))⟩]) .ret)))))
theorem tr16 : Try.f16.body.bind (trCode Try.prog) = some (strip ac16) := by kernel_rfl
theorem spec16 (l : List Md) : Spec Try.prog 16 [.fz (.sl 5 (l.map encMd))] (.fz (.int .i64 (totR l))) := by
  refine spec_at (n := 27) (ars := [(.t 2)]) (ac := ac16) Try.func16 (by kernel_rfl) (by kernel_rfl) tr16 (by kernel_rfl) ?_
  unfold ac16
  iterate 10 (all_goals (try (first
    | ((with_reducible refine of_kSpec ?_); refine call_fz (spec14 l) rfl ?_)
    | (with_reducible refine ite_in (fun _ => ?_) (fun _ => ?_))
    | (with_reducible refine ⟨fun _ => ?_, fun _ => ?_⟩)
    | (with_reducible refine And.intro ?_ ?_)
    | (with_reducible intro _)
    | (with_reducible exact is_in _)
    | ((with_reducible refine eq_in ?_); (simp_all [totR]); done)
    | (simp -implicitDefEqProofs only [SD, SF, SL, e_nf, reduceCtorEq, implies_true, ↓reduceIte, Nat.reduceEqDiff, Nat.reduceAdd, Nat.reduceMul, Nat.reduceSub, Nat.reduceLeDiff, Nat.reduceLT, Int.reduceLT, Int.reduceLE, Int.reduceEq, Int.reduceToNat, Int.reduceAdd, Int.reduceSub, Int.reduceNeg, Int.reduceBEq, Int.reduceBNe, Nat.reduceBEq, Int.cast_ofNat_Int, decide_true, decide_false, ne_eq, eq_self_iff_true, beq_eq_false_iff_ne, bne_iff_ne, List.replicate, totR, *]))))
  refine loop_q (X := List Md × List Md × Int) (fun n x => l = x.1 ++ x.2.1 ∧ n = x.2.1.length ∧ (totF 0 l = totF x.2.2 x.2.1)) (fun x => [(4, .int .i64 x.1.length), (3, .int .i64 x.2.2)]) (fun _ => []) [8, 9, 10, 11, 12, 13, 14, 15, 16, 17, 18, 19, 20, 21, 22, 23, 24, 25, 26] []  (l).length ([], l, 0) ⟨rfl, rfl, by first | rfl | (simp_all [totF]; done)⟩ ?_ ?_
  · simp -implicitDefEqProofs only [SD, SF, SL, e_nf, reduceCtorEq, implies_true, ↓reduceIte, Nat.reduceEqDiff, Nat.reduceAdd, Nat.reduceMul, Nat.reduceSub, Nat.reduceLeDiff, Nat.reduceLT, Int.reduceLT, Int.reduceLE, Int.reduceEq, Int.reduceToNat, Int.reduceAdd, Int.reduceSub, Int.reduceNeg, Int.reduceBEq, Int.reduceBNe, Nat.reduceBEq, Int.cast_ofNat_Int, decide_true, decide_false, ne_eq, eq_self_iff_true, beq_eq_false_iff_ne, bne_iff_ne, List.replicate, encMd, totF, totR] <;> simp
  · rintro n ⟨pre, rest, a⟩ ⟨he, rfl, hI⟩
    dsimp only at he hI
    cases rest with
    | nil =>
      obtain rfl : l = pre := by simpa using he
      clear he
      have hlt : ¬ (((l).length : Int) < ((l).length : Int)) := Int.lt_irrefl _
      iterate 30 (all_goals (try (first
        | (with_reducible refine ite_in (fun _ => ?_) (fun _ => ?_))
        | (with_reducible refine ⟨fun _ => ?_, fun _ => ?_⟩)
        | (with_reducible refine And.intro ?_ ?_)
        | (with_reducible intro _)
        | (with_reducible exact is_in _)
        | (simp -implicitDefEqProofs only [SD, SF, SL, e_nf, reduceCtorEq, implies_true, ↓reduceIte, Nat.reduceEqDiff, Nat.reduceAdd, Nat.reduceMul, Nat.reduceSub, Nat.reduceLeDiff, Nat.reduceLT, Int.reduceLT, Int.reduceLE, Int.reduceEq, Int.reduceToNat, Int.reduceAdd, Int.reduceSub, Int.reduceNeg, Int.reduceBEq, Int.reduceBNe, Nat.reduceBEq, Int.cast_ofNat_Int, decide_true, decide_false, ne_eq, eq_self_iff_true, beq_eq_false_iff_ne, bne_iff_ne, List.replicate, encMd, totF, totR, *]))))
      all_goals (simp_all [totR, totF])

    | cons x rest =>
      have hlt := cut_lt he
      have hx := cutD encMd he
      simp only [encMd] at hx
      simp -implicitDefEqProofs only [SD, SF, SL, e_nf, reduceCtorEq, implies_true, ↓reduceIte, Nat.reduceEqDiff, Nat.reduceAdd, Nat.reduceMul, Nat.reduceSub, Nat.reduceLeDiff, Nat.reduceLT, Int.reduceLT, Int.reduceLE, Int.reduceEq, Int.reduceToNat, Int.reduceAdd, Int.reduceSub, Int.reduceNeg, Int.reduceBEq, Int.reduceBNe, Nat.reduceBEq, Int.cast_ofNat_Int, decide_true, decide_false, ne_eq, eq_self_iff_true, beq_eq_false_iff_ne, bne_iff_ne, List.replicate, encMd, totF, totR, hlt]
      intro hl
      have hw := wrap_len (n := pre.length) (m := (l).length) (cut_lt' he) (by simpa using hl)
      replace he := Hd.mk he
      iterate 30 (all_goals (try (first
        | ((with_reducible refine back_in rest.length [8, 9, 10, 11, 12, 13, 14, 15, 16, 17, 18, 19, 20, 21, 22, 23, 24, 25, 26] [] (pre ++ [x], rest, a) ?_ ⟨?_, ?_, ?_⟩ ?_)
           · simp
           · exact cut_snoc he.out
           · rfl
           · first | rfl | (simp_all [totF]; done)
           · first | (simp -implicitDefEqProofs only [SD, SF, SL, e_nf, reduceCtorEq, implies_true, ↓reduceIte, Nat.reduceEqDiff, Nat.reduceAdd, Nat.reduceMul, Nat.reduceSub, Nat.reduceLeDiff, Nat.reduceLT, Int.reduceLT, Int.reduceLE, Int.reduceEq, Int.reduceToNat, Int.reduceAdd, Int.reduceSub, Int.reduceNeg, Int.reduceBEq, Int.reduceBNe, Nat.reduceBEq, Int.cast_ofNat_Int, decide_true, decide_false, ne_eq, eq_self_iff_true, beq_eq_false_iff_ne, bne_iff_ne, List.replicate, encMd, totF, totR] <;> simp <;> done) | (simp -implicitDefEqProofs only [SD, SF, SL, e_nf, reduceCtorEq, implies_true, ↓reduceIte, Nat.reduceEqDiff, Nat.reduceAdd, Nat.reduceMul, Nat.reduceSub, Nat.reduceLeDiff, Nat.reduceLT, Int.reduceLT, Int.reduceLE, Int.reduceEq, Int.reduceToNat, Int.reduceAdd, Int.reduceSub, Int.reduceNeg, Int.reduceBEq, Int.reduceBNe, Nat.reduceBEq, Int.cast_ofNat_Int, decide_true, decide_false, ne_eq, eq_self_iff_true, beq_eq_false_iff_ne, bne_iff_ne, List.replicate, encMd, totF, totR, *] <;> simp_all <;> done))
        | ((with_reducible refine back_in rest.length [8, 9, 10, 11, 12, 13, 14, 15, 16, 17, 18, 19, 20, 21, 22, 23, 24, 25, 26] [] (pre ++ [x], rest, IntKind.i64.wrap (a + x.size)) ?_ ⟨?_, ?_, ?_⟩ ?_)
           · simp
           · exact cut_snoc he.out
           · rfl
           · first | rfl | (simp_all [totF]; done)
           · first | (simp -implicitDefEqProofs only [SD, SF, SL, e_nf, reduceCtorEq, implies_true, ↓reduceIte, Nat.reduceEqDiff, Nat.reduceAdd, Nat.reduceMul, Nat.reduceSub, Nat.reduceLeDiff, Nat.reduceLT, Int.reduceLT, Int.reduceLE, Int.reduceEq, Int.reduceToNat, Int.reduceAdd, Int.reduceSub, Int.reduceNeg, Int.reduceBEq, Int.reduceBNe, Nat.reduceBEq, Int.cast_ofNat_Int, decide_true, decide_false, ne_eq, eq_self_iff_true, beq_eq_false_iff_ne, bne_iff_ne, List.replicate, encMd, totF, totR] <;> simp <;> done) | (simp -implicitDefEqProofs only [SD, SF, SL, e_nf, reduceCtorEq, implies_true, ↓reduceIte, Nat.reduceEqDiff, Nat.reduceAdd, Nat.reduceMul, Nat.reduceSub, Nat.reduceLeDiff, Nat.reduceLT, Int.reduceLT, Int.reduceLE, Int.reduceEq, Int.reduceToNat, Int.reduceAdd, Int.reduceSub, Int.reduceNeg, Int.reduceBEq, Int.reduceBNe, Nat.reduceBEq, Int.cast_ofNat_Int, decide_true, decide_false, ne_eq, eq_self_iff_true, beq_eq_false_iff_ne, bne_iff_ne, List.replicate, encMd, totF, totR, *] <;> simp_all <;> done))
        | (with_reducible refine ite_in (fun _ => ?_) (fun _ => ?_))
        | (with_reducible refine ⟨fun _ => ?_, fun _ => ?_⟩)
        | (with_reducible refine And.intro ?_ ?_)
        | (with_reducible intro _)
        | (with_reducible exact is_in _)
        | (simp -implicitDefEqProofs only [SD, SF, SL, e_nf, reduceCtorEq, implies_true, ↓reduceIte, Nat.reduceEqDiff, Nat.reduceAdd, Nat.reduceMul, Nat.reduceSub, Nat.reduceLeDiff, Nat.reduceLT, Int.reduceLT, Int.reduceLE, Int.reduceEq, Int.reduceToNat, Int.reduceAdd, Int.reduceSub, Int.reduceNeg, Int.reduceBEq, Int.reduceBNe, Nat.reduceBEq, Int.cast_ofNat_Int, decide_true, decide_false, ne_eq, eq_self_iff_true, beq_eq_false_iff_ne, bne_iff_ne, List.replicate, encMd, totF, totR, *]))))
      all_goals (simp_all [totR, totF])

end Go.Proofs.Ytfcjmblhcakhaaa.E
