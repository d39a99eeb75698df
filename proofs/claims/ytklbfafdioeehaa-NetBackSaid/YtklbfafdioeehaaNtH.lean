/-
  NtH: walks of functions of the program at data level.
-/
import Derived.Test.YtklbfafdioeehaaProg
import Derived.Test.YtklbfafdioeehaaEngZ
import Derived.Test.YtklbfafdioeehaaNtG
import Derived.KernelRfl
set_option linter.unusedVariables false
set_option linter.unusedSimpArgs false
namespace Go.Proofs.Ytklbfafdioeehaa.E
open Go
set_option maxHeartbeats 4000000
set_option maxRecDepth 100000
set_option linter.unusedSimpArgs false
set_option linter.unusedVariables false
attribute [local congr] c_wp c_ops c_op c_opS c_run c_runS c_dt c_seq c_blk c_loop c_S c_put c_bind c_mv c_pick c_nt c_ng c_bin c_binI c_binS c_beq c_B c_eqa c_hd c_cells c_blkK c_box c_vec c_mp c_nck c_mks c_appn c_mkm c_mput c_mlk c_mrm c_take c_ld c_ldF c_cellsK c_st c_fld c_fldv c_ix c_ixp c_ixv c_ixs c_sub c_subs c_len c_lens c_src c_dst c_ow c_app c_ext c_mm c_conv c_str c_isn c_fill c_rows c_boxo c_frz c_frzO c_frzA c_frzV c_spec c_specO c_opsP c_opP c_runP c_specP c_Z c_qretP c_fz c_fn c_gv c_cond c_res1 c_resL c_ret c_qret c_ite c_unr c_nx c_bk c_cut c_is
attribute [local irreducible] dwp
def ac22 : AC := (.seq (.ops [⟨(some 2), none, (.box (.t 0))⟩, ⟨(some 4), none, (.alloc [.e0, .e0])⟩]) (.seq (.seq (.ops [⟨(some 9), none, (.ld true 2 (.t 2))⟩, ⟨(some 10), none, (.mv (.t 1))⟩, ⟨(some 11), none, (.call false 19 [(.t 9), (.t 10)])⟩, ⟨(some 8), none, (.mv (.t 11))⟩, ⟨(some 12), none, (.ext (.t 8) 0)⟩, ⟨(some 13), none, (.ext (.t 8) 1)⟩, ⟨(some 14), none, (.ext (.t 8) 2)⟩, ⟨(some 5), none, (.alloc [.e0, .e0])⟩, ⟨(some 6), none, (.alloc [(.str []), (.str []), (.int .i64 0), (.int .i64 0), (.str []), .e0, .e0, .e0, (.str []), (.int .i64 0)])⟩, ⟨none, none, (.sto 2 (.t 5) (.t 12))⟩, ⟨none, none, (.sto 10 (.t 6) (.t 13))⟩, ⟨(some 7), none, (.mv (.t 14))⟩]) (.seq (.ops [⟨(some 15), none, (.mv (.t 7))⟩]) (.cond (.t 15) (.seq (.ops [⟨(some 16), none, (.ld true 2 (.t 5))⟩, ⟨none, none, (.sto 2 (.t 4) (.t 16))⟩]) .ret) .skip))) (.seq (.ops [⟨(some 17), none, (.ld true 2 (.t 2))⟩, ⟨none, none, (.sto 2 (.t 4) (.t 17))⟩]) .ret)))
theorem tr22 : Try.f22.body.bind (trCode Try.prog) = some (strip ac22) := by kernel_rfl
theorem spec22 (nw : Ntw) (i : Int) (hp : nw.packets.length ≤ 2000) : Spec Try.prog 22 [.fz (.agg (encNw nw)), .fz (.int .i64 i)] (.fz (.agg (encNw (dropR nw i)))) := by
  refine spec_at (n := 16) (ars := [(.c true 2 4)]) (ac := ac22) Try.func22 (by kernel_rfl) (by kernel_rfl) tr22 (by kernel_rfl) ?_
  unfold ac22
  have hq := rfl (a := nextR nw i)
  have hd : dropR nw i = dropR nw i := rfl
  by_cases h0 : nw.packets.length = 0
  · have hq : nextR nw i = ((e0Nw, zPk), false) := by unfold nextR; simp [h0]
    have hd : dropR nw i = nw := by unfold dropR; simp [h0]
    iterate 40 (all_goals (try (first
      | ((with_reducible refine of_kSpec ?_)
         refine call_sub (ds' := [.agg (encNw nw), .int .i64 i]) (spec19 nw i hp) rfl ?_ ?_
         · simp -implicitDefEqProofs only [SD, SF, SL, e_nf, reduceCtorEq, implies_true, ↓reduceIte, Nat.reduceEqDiff, Nat.reduceAdd, Nat.reduceMul, Nat.reduceSub, Nat.reduceLeDiff, Nat.reduceLT, Int.reduceLT, Int.reduceLE, Int.reduceEq, Int.reduceToNat, Int.reduceAdd, Int.reduceSub, Int.reduceNeg, Int.reduceBEq, Int.reduceBNe, Nat.reduceBEq, Int.cast_ofNat_Int, decide_true, decide_false, ne_eq, eq_self_iff_true, beq_eq_false_iff_ne, bne_iff_ne, List.replicate, encNw, encPk, *]
           done)
      | (with_reducible refine ite_in (fun _ => ?_) (fun _ => ?_))
      | (with_reducible refine ⟨fun _ => ?_, fun _ => ?_⟩)
      | (with_reducible refine And.intro ?_ ?_)
      | (with_reducible intro _)
      | (with_reducible exact is_in _)
      | (simp -implicitDefEqProofs only [SD, SF, SL, e_nf, reduceCtorEq, implies_true, ↓reduceIte, Nat.reduceEqDiff, Nat.reduceAdd, Nat.reduceMul, Nat.reduceSub, Nat.reduceLeDiff, Nat.reduceLT, Int.reduceLT, Int.reduceLE, Int.reduceEq, Int.reduceToNat, Int.reduceAdd, Int.reduceSub, Int.reduceNeg, Int.reduceBEq, Int.reduceBNe, Nat.reduceBEq, Int.cast_ofNat_Int, decide_true, decide_false, ne_eq, eq_self_iff_true, beq_eq_false_iff_ne, bne_iff_ne, List.replicate, encNw, encPk, hq, *]))))
    all_goals (first
      | (simp_all [copyR, dropR, nextR, encNw, encPk, e0Nw, zPk]; done)
      | omega
      | (simp only [maxLen] at *; omega)
      | (rw [hd]; done)
      | (rw [hd]; rfl)
      | (rw [hd]; simp [encPk]; done)
      | (rw [hd, enc_mid]; done)
      | (rw [hd, enc_mid]; rfl)
      | (rw [hd, enc_mid]; simp [encPk]; done))
  have hq : nextR nw i = ((dropR nw i, nw.packets.getD (idxR nw.packets.length i) zPk), true) := by
    unfold nextR
    rw [if_neg h0]
  clear hd
  obtain ⟨dd, hdd⟩ : ∃ dd, dd = dropR nw i := ⟨_, rfl⟩
  rw [← hdd] at hq ⊢
  iterate 40 (all_goals (try (first
    | ((with_reducible refine of_kSpec ?_)
       refine call_sub (ds' := [.agg (encNw nw), .int .i64 i]) (spec19 nw i hp) rfl ?_ ?_
       · simp -implicitDefEqProofs only [SD, SF, SL, e_nf, reduceCtorEq, implies_true, ↓reduceIte, Nat.reduceEqDiff, Nat.reduceAdd, Nat.reduceMul, Nat.reduceSub, Nat.reduceLeDiff, Nat.reduceLT, Int.reduceLT, Int.reduceLE, Int.reduceEq, Int.reduceToNat, Int.reduceAdd, Int.reduceSub, Int.reduceNeg, Int.reduceBEq, Int.reduceBNe, Nat.reduceBEq, Int.cast_ofNat_Int, decide_true, decide_false, ne_eq, eq_self_iff_true, beq_eq_false_iff_ne, bne_iff_ne, List.replicate, encNw, encPk, *]
         done)
    | (with_reducible refine ite_in (fun _ => ?_) (fun _ => ?_))
    | (with_reducible refine ⟨fun _ => ?_, fun _ => ?_⟩)
    | (with_reducible refine And.intro ?_ ?_)
    | (with_reducible intro _)
    | (with_reducible exact is_in _)
    | (simp -implicitDefEqProofs only [SD, SF, SL, e_nf, reduceCtorEq, implies_true, ↓reduceIte, Nat.reduceEqDiff, Nat.reduceAdd, Nat.reduceMul, Nat.reduceSub, Nat.reduceLeDiff, Nat.reduceLT, Int.reduceLT, Int.reduceLE, Int.reduceEq, Int.reduceToNat, Int.reduceAdd, Int.reduceSub, Int.reduceNeg, Int.reduceBEq, Int.reduceBNe, Nat.reduceBEq, Int.cast_ofNat_Int, decide_true, decide_false, ne_eq, eq_self_iff_true, beq_eq_false_iff_ne, bne_iff_ne, List.replicate, encNw, encPk, hq, *]))))
  all_goals (first
    | (simp_all [copyR, dropR, nextR, encNw, encPk, e0Nw, zPk]; done)
    | omega
    | (simp only [maxLen] at *; omega)
    | (rw [hd]; done)
    | (rw [hd]; rfl)
    | (rw [hd]; simp [encPk]; done)
    | (rw [hd, enc_mid]; done)
    | (rw [hd, enc_mid]; rfl)
    | (rw [hd, enc_mid]; simp [encPk]; done))
def ac23 : AC := (.seq (.ops [⟨(some 2), none, (.box (.t 0))⟩, ⟨(some 4), none, (.alloc [.e0, .e0])⟩]) (.seq (.seq (.ops [⟨(some 8), none, (.fld 0 (.t 2))⟩, ⟨(some 9), none, (.ld false 1 (.t 8))⟩, ⟨(some 10), none, (.len (.t 9))⟩, ⟨(some 11), none, (.bin .eql (.t 10) (.c (.int .i64 0)))⟩]) (.cond (.t 11) (.seq (.ops [⟨(some 12), none, (.ld true 2 (.t 2))⟩, ⟨none, none, (.sto 2 (.t 4) (.t 12))⟩]) .ret) .skip)) (.seq (.ops [⟨(some 13), none, (.ld true 2 (.t 2))⟩, ⟨(some 14), none, (.mv (.t 1))⟩, ⟨(some 15), none, (.call false 35 [(.t 13), (.t 14)])⟩, ⟨(some 5), none, (.mv (.t 15))⟩]) (.seq (.ops [⟨(some 6), none, (.mv (.c .e0))⟩]) (.seq (.seq (.ops [⟨(some 7), none, (.mv (.c (.int .i64 0)))⟩]) (.block 0 (.loop (.seq (.seq (.ops [⟨(some 16), none, (.mv (.t 7))⟩, ⟨(some 17), none, (.fld 0 (.t 2))⟩, ⟨(some 18), none, (.ld false 1 (.t 17))⟩, ⟨(some 19), none, (.len (.t 18))⟩, ⟨(some 20), none, (.bin .lss (.t 16) (.t 19))⟩]) (.cond (.t 20) .skip (.exit 0))) (.seq (.block 1 (.seq (.ops [⟨(some 23), none, (.mv (.t 7))⟩, ⟨(some 24), none, (.mv (.t 5))⟩, ⟨(some 25), none, (.bin .neq (.t 23) (.t 24))⟩]) (.cond (.t 25) (.ops [⟨(some 26), none, (.mv (.t 6))⟩, ⟨(some 27), none, (.fld 0 (.t 2))⟩, ⟨(some 28), none, (.ld false 1 (.t 27))⟩, ⟨(some 29), none, (.mv (.t 7))⟩, ⟨(some 30), none, (.ix 10 (.t 28) (.t 29))⟩, ⟨(some 31), none, (.ld true 10 (.t 30))⟩, ⟨(some 32), none, (.buildSl 31 10 1 [(.str []), (.str []), (.int .i64 0), (.int .i64 0), (.str []), .e0, .e0, .e0, (.str []), (.int .i64 0)] [(0, (.t 31))])⟩, ⟨(some 33), none, (.app 31 10 160 (.t 26) (.t 32))⟩, ⟨(some 6), none, (.mv (.t 33))⟩]) .skip))) (.ops [⟨(some 21), none, (.mv (.t 7))⟩, ⟨(some 22), none, (.bin .add (.t 21) (.c (.int .i64 1)))⟩, ⟨(some 7), none, (.mv (.t 22))⟩])))))) (.seq (.ops [⟨(some 34), none, (.mv (.t 6))⟩, ⟨(some 35), none, (.fld 0 (.t 2))⟩, ⟨none, none, (.sto 1 (.t 35) (.t 34))⟩]) (.seq (.ops [⟨(some 36), none, (.ld true 2 (.t 2))⟩, ⟨none, none, (.sto 2 (.t 4) (.t 36))⟩]) .ret)))))))
theorem tr23 : Try.f23.body.bind (trCode Try.prog) = some (strip ac23) := by kernel_rfl
theorem spec23 (nw : Ntw) (i : Int) (hp : nw.packets.length ≤ 2000) : Spec Try.prog 23 [.fz (.agg (encNw nw)), .fz (.int .i64 i)] (.fz (.agg (encNw (dropR nw i)))) := by
  refine spec_at (n := 35) (ars := [(.c true 2 4)]) (ac := ac23) Try.func23 (by kernel_rfl) (by kernel_rfl) tr23 (by kernel_rfl) ?_
  unfold ac23
  by_cases h0 : nw.packets.length = 0
  · have h0i : (nw.packets.length : Int) = 0 := by omega
    have hz : ¬ ((0 : Int) < nw.packets.length) := by omega
    have hq : dropR nw i = nw := by unfold dropR; simp [h0]
    iterate 30 (all_goals (try (first
      | (with_reducible refine ite_in (fun _ => ?_) (fun _ => ?_))
      | (with_reducible refine ⟨fun _ => ?_, fun _ => ?_⟩)
      | (with_reducible refine And.intro ?_ ?_)
      | (with_reducible intro _)
      | (with_reducible exact is_in _)
      | (simp -implicitDefEqProofs only [SD, SF, SL, e_nf, reduceCtorEq, implies_true, ↓reduceIte, Nat.reduceEqDiff, Nat.reduceAdd, Nat.reduceMul, Nat.reduceSub, Nat.reduceLeDiff, Nat.reduceLT, Int.reduceLT, Int.reduceLE, Int.reduceEq, Int.reduceToNat, Int.reduceAdd, Int.reduceSub, Int.reduceNeg, Int.reduceBEq, Int.reduceBNe, Nat.reduceBEq, Int.cast_ofNat_Int, decide_true, decide_false, ne_eq, eq_self_iff_true, beq_eq_false_iff_ne, bne_iff_ne, List.replicate, encNw, encPk, *]))))
    all_goals (first
      | (simp_all [copyR, dropR, nextR, encNw, encPk, e0Nw, zPk]; done)
      | omega
      | (simp only [maxLen] at *; omega)
      | (rw [hq]; done)
      | (rw [hq]; rfl)
      | (rw [hq]; simp [encPk]; done)
      | (rw [hq, enc_mid]; done)
      | (rw [hq, enc_mid]; rfl)
      | (rw [hq, enc_mid]; simp [encPk]; done))

  have h0i : ¬ ((nw.packets.length : Int) = 0) := by omega
  have hz : (0 : Int) < nw.packets.length := by omega
  obtain ⟨hk, _, _⟩ := idx_facts h0 (by simp only [maxLen]; omega) i
  have hrow := row_at hk
  simp only [encPk] at hrow
  have hki : (idxR nw.packets.length i : Int) < nw.packets.length := by omega
  have hkw : IntKind.i64.wrap ((idxR nw.packets.length i : Int) + 1) = (idxR nw.packets.length i : Int) + 1 := wrap_in (by omega) (by omega)
  obtain ⟨k, hke⟩ : ∃ k, k = idxR nw.packets.length i := ⟨_, rfl⟩
  have hpl := spec33 nw i h0
  have hpi := spec35 nw i h0
  rw [← hke] at hk hrow hki hkw hpl hpi
  have hq : dropR nw i = ⟨delD k nw.packets, nw.cuts⟩ := by
    unfold dropR delD
    rw [if_neg h0, hke]
  clear hke
  rw [hq]
  have hpm : nw.packets.length ≤ maxLen := by simp only [maxLen]; omega
  iterate 16 (all_goals (try (first
    | ((with_reducible refine of_kSpec ?_)
       refine call_sub (ds' := [.agg (encNw nw), .int .i64 i]) (hpi) rfl ?_ ?_
       · simp -implicitDefEqProofs only [SD, SF, SL, e_nf, reduceCtorEq, implies_true, ↓reduceIte, Nat.reduceEqDiff, Nat.reduceAdd, Nat.reduceMul, Nat.reduceSub, Nat.reduceLeDiff, Nat.reduceLT, Int.reduceLT, Int.reduceLE, Int.reduceEq, Int.reduceToNat, Int.reduceAdd, Int.reduceSub, Int.reduceNeg, Int.reduceBEq, Int.reduceBNe, Nat.reduceBEq, Int.cast_ofNat_Int, decide_true, decide_false, ne_eq, eq_self_iff_true, beq_eq_false_iff_ne, bne_iff_ne, List.replicate, encNw, encPk, *]
         done)
    | (with_reducible refine ite_in (fun _ => ?_) (fun _ => ?_))
    | (with_reducible refine ⟨fun _ => ?_, fun _ => ?_⟩)
    | (with_reducible refine And.intro ?_ ?_)
    | (with_reducible intro _)
    | (with_reducible exact is_in _)
    | (simp -implicitDefEqProofs only [SD, SF, SL, e_nf, reduceCtorEq, implies_true, ↓reduceIte, Nat.reduceEqDiff, Nat.reduceAdd, Nat.reduceMul, Nat.reduceSub, Nat.reduceLeDiff, Nat.reduceLT, Int.reduceLT, Int.reduceLE, Int.reduceEq, Int.reduceToNat, Int.reduceAdd, Int.reduceSub, Int.reduceNeg, Int.reduceBEq, Int.reduceBNe, Nat.reduceBEq, Int.cast_ofNat_Int, decide_true, decide_false, ne_eq, eq_self_iff_true, beq_eq_false_iff_ne, bne_iff_ne, List.replicate, encNw, encPk, *]))))
  refine loop_r (X := List Pk × List Pk × (DV × List (Nat × Blk))) (fun n x => nw.packets = x.1 ++ x.2.1 ∧ n = x.2.1.length ∧ ((delD k x.1 = [] ∧ x.2.2 = (DV.e0, [])) ∨ x.2.2 = (DV.ow 33, [(33, Blk.vec 31 10 ((delD k x.1).map encPk))]))) (fun x => [(7, .int .i64 x.1.length), (6, x.2.2.1)]) (fun x => x.2.2.2) [16, 17, 18, 19, 20, 21, 22, 23, 24, 25, 26, 27, 28, 29, 30, 31, 32, 33] [32, 33] [32] (nw.packets).length ([], nw.packets, (DV.e0, [])) ⟨rfl, rfl, by exact .inl ⟨by simp [delD], rfl⟩⟩ ?_ ?_
  · simp -implicitDefEqProofs only [SD, SF, SL, e_nf, reduceCtorEq, implies_true, ↓reduceIte, Nat.reduceEqDiff, Nat.reduceAdd, Nat.reduceMul, Nat.reduceSub, Nat.reduceLeDiff, Nat.reduceLT, Int.reduceLT, Int.reduceLE, Int.reduceEq, Int.reduceToNat, Int.reduceAdd, Int.reduceSub, Int.reduceNeg, Int.reduceBEq, Int.reduceBNe, Nat.reduceBEq, Int.cast_ofNat_Int, decide_true, decide_false, ne_eq, eq_self_iff_true, beq_eq_false_iff_ne, bne_iff_ne, List.replicate, encNw, encPk] <;> simp
  · rintro n ⟨pre, rest, a⟩ ⟨he, rfl, hI⟩
    dsimp only at he hI
    cases rest with
    | nil =>
      obtain rfl : nw.packets = pre := by simpa using he
      clear he
      have hlt : ¬ (((nw.packets).length : Int) < ((nw.packets).length : Int)) := Int.lt_irrefl _
      rcases hI with ⟨hp0, rfl⟩ | rfl
      all_goals try replace hp0 := Hd.mk hp0
      iterate 30 (all_goals (try (first
        | (with_reducible refine ite_in (fun _ => ?_) (fun _ => ?_))
        | (with_reducible refine ⟨fun _ => ?_, fun _ => ?_⟩)
        | (with_reducible refine And.intro ?_ ?_)
        | (with_reducible intro _)
        | (with_reducible exact is_in _)
        | (simp -implicitDefEqProofs only [SD, SF, SL, e_nf, reduceCtorEq, implies_true, ↓reduceIte, Nat.reduceEqDiff, Nat.reduceAdd, Nat.reduceMul, Nat.reduceSub, Nat.reduceLeDiff, Nat.reduceLT, Int.reduceLT, Int.reduceLE, Int.reduceEq, Int.reduceToNat, Int.reduceAdd, Int.reduceSub, Int.reduceNeg, Int.reduceBEq, Int.reduceBNe, Nat.reduceBEq, Int.cast_ofNat_Int, decide_true, decide_false, ne_eq, eq_self_iff_true, beq_eq_false_iff_ne, bne_iff_ne, List.replicate, encNw, encPk, *]))))
      all_goals (first | (simp_all [encNw, encPk]; done) | (have hp := hp0.out; simp_all [encNw, encPk]; done))

    | cons x rest =>
      have hlt := cut_lt he
      have hx := cutD encPk he
      simp only [encPk] at hx
      have hw := wrap_len (n := pre.length) (m := (nw.packets).length) (cut_lt' he) hpm
      replace he := Hd.mk he
      have hz1 := cut_lt' he.out
      have hz9 := delD_len k pre
      have hz2 : (delD k pre).length + 1 ≤ maxLen := by simp only [maxLen]; omega
      have hz3 : ((delD k pre).length + 1) * 160 ≤ 140737488355328 := by omega
      have hsn := delD_snoc k pre x
      rcases Decidable.em (pre.length = k) with hjk | hjk
      case' inl =>
        have hji : ((pre.length : Int) = k) = True := by simp; omega
        rw [if_pos hjk] at hsn
      case' inr =>
        have hji : ((pre.length : Int) = k) = False := by simp; omega
        rw [if_neg hjk] at hsn
      all_goals replace hjk := Hd.mk hjk
      all_goals replace hsn := Hd.mk hsn
      all_goals rcases hI with ⟨hp0, rfl⟩ | rfl
      all_goals try replace hp0 := Hd.mk hp0
      iterate 30 (all_goals (try (first
        | ((with_reducible refine back_in rest.length [16, 17, 18, 19, 20, 21, 22, 23, 24, 25, 26, 27, 28, 29, 30, 31, 32, 33] [32] (pre ++ [x], rest, (DV.e0, [])) ?_ ⟨?_, ?_, ?_⟩ ?_)
           · simp
           · exact cut_snoc he.out
           · rfl
           · first | (refine .inl ⟨?_, rfl⟩; rw [hsn.out, hp0.out]; done) | (refine .inr ?_; rw [hsn.out]; done) | (refine .inr ?_; rw [hsn.out, List.map_append]; rfl) | (refine .inr ?_; rw [hsn.out, hp0.out]; rfl)
           · first | (simp -implicitDefEqProofs only [SD, SF, SL, e_nf, reduceCtorEq, implies_true, ↓reduceIte, Nat.reduceEqDiff, Nat.reduceAdd, Nat.reduceMul, Nat.reduceSub, Nat.reduceLeDiff, Nat.reduceLT, Int.reduceLT, Int.reduceLE, Int.reduceEq, Int.reduceToNat, Int.reduceAdd, Int.reduceSub, Int.reduceNeg, Int.reduceBEq, Int.reduceBNe, Nat.reduceBEq, Int.cast_ofNat_Int, decide_true, decide_false, ne_eq, eq_self_iff_true, beq_eq_false_iff_ne, bne_iff_ne, List.replicate, encNw, encPk] <;> simp <;> done) | (simp -implicitDefEqProofs only [SD, SF, SL, e_nf, reduceCtorEq, implies_true, ↓reduceIte, Nat.reduceEqDiff, Nat.reduceAdd, Nat.reduceMul, Nat.reduceSub, Nat.reduceLeDiff, Nat.reduceLT, Int.reduceLT, Int.reduceLE, Int.reduceEq, Int.reduceToNat, Int.reduceAdd, Int.reduceSub, Int.reduceNeg, Int.reduceBEq, Int.reduceBNe, Nat.reduceBEq, Int.cast_ofNat_Int, decide_true, decide_false, ne_eq, eq_self_iff_true, beq_eq_false_iff_ne, bne_iff_ne, List.replicate, encNw, encPk, *] <;> simp_all <;> done))
        | ((with_reducible refine back_in rest.length [16, 17, 18, 19, 20, 21, 22, 23, 24, 25, 26, 27, 28, 29, 30, 31, 32, 33] [32] (pre ++ [x], rest, (DV.ow 33, [(33, Blk.vec 31 10 ((delD k pre).map encPk))])) ?_ ⟨?_, ?_, ?_⟩ ?_)
           · simp
           · exact cut_snoc he.out
           · rfl
           · first | (refine .inl ⟨?_, rfl⟩; rw [hsn.out, hp0.out]; done) | (refine .inr ?_; rw [hsn.out]; done) | (refine .inr ?_; rw [hsn.out, List.map_append]; rfl) | (refine .inr ?_; rw [hsn.out, hp0.out]; rfl)
           · first | (simp -implicitDefEqProofs only [SD, SF, SL, e_nf, reduceCtorEq, implies_true, ↓reduceIte, Nat.reduceEqDiff, Nat.reduceAdd, Nat.reduceMul, Nat.reduceSub, Nat.reduceLeDiff, Nat.reduceLT, Int.reduceLT, Int.reduceLE, Int.reduceEq, Int.reduceToNat, Int.reduceAdd, Int.reduceSub, Int.reduceNeg, Int.reduceBEq, Int.reduceBNe, Nat.reduceBEq, Int.cast_ofNat_Int, decide_true, decide_false, ne_eq, eq_self_iff_true, beq_eq_false_iff_ne, bne_iff_ne, List.replicate, encNw, encPk] <;> simp <;> done) | (simp -implicitDefEqProofs only [SD, SF, SL, e_nf, reduceCtorEq, implies_true, ↓reduceIte, Nat.reduceEqDiff, Nat.reduceAdd, Nat.reduceMul, Nat.reduceSub, Nat.reduceLeDiff, Nat.reduceLT, Int.reduceLT, Int.reduceLE, Int.reduceEq, Int.reduceToNat, Int.reduceAdd, Int.reduceSub, Int.reduceNeg, Int.reduceBEq, Int.reduceBNe, Nat.reduceBEq, Int.cast_ofNat_Int, decide_true, decide_false, ne_eq, eq_self_iff_true, beq_eq_false_iff_ne, bne_iff_ne, List.replicate, encNw, encPk, *] <;> simp_all <;> done))
        | ((with_reducible refine back_in rest.length [16, 17, 18, 19, 20, 21, 22, 23, 24, 25, 26, 27, 28, 29, 30, 31, 32, 33] [32] (pre ++ [x], rest, (DV.ow 33, [(33, Blk.vec 31 10 ((delD k pre).map encPk ++ [encPk x]))])) ?_ ⟨?_, ?_, ?_⟩ ?_)
           · simp
           · exact cut_snoc he.out
           · rfl
           · first | (refine .inl ⟨?_, rfl⟩; rw [hsn.out, hp0.out]; done) | (refine .inr ?_; rw [hsn.out]; done) | (refine .inr ?_; rw [hsn.out, List.map_append]; rfl) | (refine .inr ?_; rw [hsn.out, hp0.out]; rfl)
           · first | (simp -implicitDefEqProofs only [SD, SF, SL, e_nf, reduceCtorEq, implies_true, ↓reduceIte, Nat.reduceEqDiff, Nat.reduceAdd, Nat.reduceMul, Nat.reduceSub, Nat.reduceLeDiff, Nat.reduceLT, Int.reduceLT, Int.reduceLE, Int.reduceEq, Int.reduceToNat, Int.reduceAdd, Int.reduceSub, Int.reduceNeg, Int.reduceBEq, Int.reduceBNe, Nat.reduceBEq, Int.cast_ofNat_Int, decide_true, decide_false, ne_eq, eq_self_iff_true, beq_eq_false_iff_ne, bne_iff_ne, List.replicate, encNw, encPk] <;> simp <;> done) | (simp -implicitDefEqProofs only [SD, SF, SL, e_nf, reduceCtorEq, implies_true, ↓reduceIte, Nat.reduceEqDiff, Nat.reduceAdd, Nat.reduceMul, Nat.reduceSub, Nat.reduceLeDiff, Nat.reduceLT, Int.reduceLT, Int.reduceLE, Int.reduceEq, Int.reduceToNat, Int.reduceAdd, Int.reduceSub, Int.reduceNeg, Int.reduceBEq, Int.reduceBNe, Nat.reduceBEq, Int.cast_ofNat_Int, decide_true, decide_false, ne_eq, eq_self_iff_true, beq_eq_false_iff_ne, bne_iff_ne, List.replicate, encNw, encPk, *] <;> simp_all <;> done))
        | ((with_reducible refine back_in rest.length [16, 17, 18, 19, 20, 21, 22, 23, 24, 25, 26, 27, 28, 29, 30, 31, 32, 33] [32] (pre ++ [x], rest, (DV.ow 33, [(33, Blk.vec 31 10 [encPk x])])) ?_ ⟨?_, ?_, ?_⟩ ?_)
           · simp
           · exact cut_snoc he.out
           · rfl
           · first | (refine .inl ⟨?_, rfl⟩; rw [hsn.out, hp0.out]; done) | (refine .inr ?_; rw [hsn.out]; done) | (refine .inr ?_; rw [hsn.out, List.map_append]; rfl) | (refine .inr ?_; rw [hsn.out, hp0.out]; rfl)
           · first | (simp -implicitDefEqProofs only [SD, SF, SL, e_nf, reduceCtorEq, implies_true, ↓reduceIte, Nat.reduceEqDiff, Nat.reduceAdd, Nat.reduceMul, Nat.reduceSub, Nat.reduceLeDiff, Nat.reduceLT, Int.reduceLT, Int.reduceLE, Int.reduceEq, Int.reduceToNat, Int.reduceAdd, Int.reduceSub, Int.reduceNeg, Int.reduceBEq, Int.reduceBNe, Nat.reduceBEq, Int.cast_ofNat_Int, decide_true, decide_false, ne_eq, eq_self_iff_true, beq_eq_false_iff_ne, bne_iff_ne, List.replicate, encNw, encPk] <;> simp <;> done) | (simp -implicitDefEqProofs only [SD, SF, SL, e_nf, reduceCtorEq, implies_true, ↓reduceIte, Nat.reduceEqDiff, Nat.reduceAdd, Nat.reduceMul, Nat.reduceSub, Nat.reduceLeDiff, Nat.reduceLT, Int.reduceLT, Int.reduceLE, Int.reduceEq, Int.reduceToNat, Int.reduceAdd, Int.reduceSub, Int.reduceNeg, Int.reduceBEq, Int.reduceBNe, Nat.reduceBEq, Int.cast_ofNat_Int, decide_true, decide_false, ne_eq, eq_self_iff_true, beq_eq_false_iff_ne, bne_iff_ne, List.replicate, encNw, encPk, *] <;> simp_all <;> done))
        | (with_reducible refine ite_in (fun _ => ?_) (fun _ => ?_))
        | (with_reducible refine ⟨fun _ => ?_, fun _ => ?_⟩)
        | (with_reducible refine And.intro ?_ ?_)
        | (with_reducible intro _)
        | (with_reducible exact is_in _)
        | (simp -implicitDefEqProofs only [SD, SF, SL, e_nf, reduceCtorEq, implies_true, ↓reduceIte, Nat.reduceEqDiff, Nat.reduceAdd, Nat.reduceMul, Nat.reduceSub, Nat.reduceLeDiff, Nat.reduceLT, Int.reduceLT, Int.reduceLE, Int.reduceEq, Int.reduceToNat, Int.reduceAdd, Int.reduceSub, Int.reduceNeg, Int.reduceBEq, Int.reduceBNe, Nat.reduceBEq, Int.cast_ofNat_Int, decide_true, decide_false, ne_eq, eq_self_iff_true, beq_eq_false_iff_ne, bne_iff_ne, List.replicate, encNw, encPk, *]))))
      all_goals (first | omega | (simp only [maxLen] at *; omega) | (simp only [List.length_map]; omega) | (simp_all; done))

end Go.Proofs.Ytklbfafdioeehaa.E
