/-
  FiZ4: walks of functions of the program at data level.
-/
import Derived.Test.YtamcbdflmephdaaProg
import Derived.Test.YtamcbdflmephdaaEngZ
import Derived.Test.YtamcbdflmephdaaFiZ
import Derived.Test.YtamcbdflmephdaaFiS
import Derived.KernelRfl
set_option linter.unusedVariables false
set_option linter.unusedSimpArgs false
namespace Go.Proofs.Ytamcbdflmephdaa.E
open Go
set_option maxHeartbeats 4000000
set_option maxRecDepth 100000
set_option linter.unusedSimpArgs false
set_option linter.unusedVariables false
attribute [local congr] c_wp c_ops c_op c_opS c_run c_runS c_dt c_seq c_blk c_loop c_S c_put c_bind c_mv c_pick c_nt c_ng c_bin c_binI c_binS c_beq c_B c_eqa c_hd c_cells c_blkK c_box c_vec c_mp c_nck c_mks c_appn c_mkm c_mput c_mlk c_mrm c_take c_ld c_ldF c_cellsK c_st c_fld c_fldv c_ix c_ixp c_ixv c_ixs c_sub c_subs c_len c_lens c_src c_dst c_ow c_app c_ext c_mm c_conv c_str c_isn c_fill c_rows c_boxo c_frz c_frzO c_frzA c_frzV c_spec c_specO c_opsP c_opP c_runP c_specP c_Z c_qretP c_fz c_fn c_gv c_cond c_res1 c_resL c_ret c_qret c_ite c_unr c_nx c_bk c_cut c_is
attribute [local irreducible] dwp

def flL (f : Flt) (es : List Ev) : List Ev := es.filter (wants f)
theorem fl_snoc (f : Flt) (pre : List Ev) (x : Ev) : flL f (pre ++ [x]) = if wants f x = true then flL f pre ++ [x] else flL f pre := by
  unfold flL
  rw [List.filter_append]
  by_cases h : wants f x = true <;> simp [h]
theorem fl_len (f : Flt) (pre : List Ev) : (flL f pre).length ≤ pre.length := List.length_filter_le _ _
theorem wantL_fl (f : Flt) (es : List Ev) : wantL f es = (flL f es).reverse := rfl
theorem cut_all {f : Flt} {es : List Ev} (h : (flL f es).length ≤ f.limit.toNat) : cutL f es = (flL f es, false) := by
  unfold cutL
  rw [wantL_fl, List.take_of_length_le (by rw [List.length_reverse]; exact h), List.reverse_reverse, List.length_reverse, decide_eq_false (by omega)]
theorem cut_some {f : Flt} {es : List Ev} (h : f.limit.toNat < (flL f es).length) : cutL f es = ((flL f es).drop ((flL f es).length - f.limit.toNat), true) := by
  unfold cutL
  rw [wantL_fl, List.length_reverse, decide_eq_true h, List.take_reverse, List.reverse_reverse]
def ac17 : AC := (.seq (.ops [⟨(some 2), none, (.box (.t 0))⟩, ⟨(some 4), none, (.mv (.c .e0))⟩, ⟨(some 5), none, (.mv (.c (.bool false)))⟩]) (.seq (.ops [⟨(some 9), none, (.buildSl 41 29 0 [(.int .i64 0), (.str []), (.str []), (.int .i64 0), (.bool false), (.str []), (.int .i64 0), (.int .i64 0), .e0, .e0, (.str []), (.int .i64 0), (.int .i64 0), (.bool false), (.str []), .e0, .e0, .e0, .e0, (.int .i64 0), (.int .i64 0), (.int .i64 0), (.int .i64 0), (.int .i64 0), (.int .i64 0), (.int .i64 0), (.int .i64 0), (.str []), (.int .i64 0)] [])⟩, ⟨(some 6), none, (.mv (.t 9))⟩]) (.seq (.seq (.ops [⟨(some 7), none, (.mv (.c (.int .i64 0)))⟩]) (.block 0 (.loop (.seq (.seq (.ops [⟨(some 10), none, (.mv (.t 7))⟩, ⟨(some 11), none, (.mv (.t 1))⟩, ⟨(some 12), none, (.len (.t 11))⟩, ⟨(some 13), none, (.bin .lss (.t 10) (.t 12))⟩]) (.cond (.t 13) .skip (.exit 0))) (.seq (.block 1 (.seq (.draw (.q false ⟨(some 16), none, (.ld true 5 (.t 2))⟩ (.q false ⟨(some 17), none, (.mv (.t 1))⟩ (.q false ⟨(some 18), none, (.mv (.t 7))⟩ (.q false ⟨(some 19), none, (.ix 29 (.t 17) (.t 18))⟩ (.q false ⟨(some 20), none, (.ld true 29 (.t 19))⟩ (.op ⟨(some 21), none, (.call false 15 [(.t 16), (.t 20)])⟩ .nil))))))) (.cond (.t 21) (.ops [⟨(some 22), none, (.mv (.t 6))⟩, ⟨(some 23), none, (.mv (.t 1))⟩, ⟨(some 24), none, (.mv (.t 7))⟩, ⟨(some 25), none, (.ix 29 (.t 23) (.t 24))⟩, ⟨(some 26), none, (.ld true 29 (.t 25))⟩, ⟨(some 27), none, (.buildSl 41 29 1 [(.int .i64 0), (.str []), (.str []), (.int .i64 0), (.bool false), (.str []), (.int .i64 0), (.int .i64 0), .e0, .e0, (.str []), (.int .i64 0), (.int .i64 0), (.bool false), (.str []), .e0, .e0, .e0, .e0, (.int .i64 0), (.int .i64 0), (.int .i64 0), (.int .i64 0), (.int .i64 0), (.int .i64 0), (.int .i64 0), (.int .i64 0), (.str []), (.int .i64 0)] [(0, (.t 26))])⟩, ⟨(some 28), none, (.app 41 29 376 (.t 22) (.t 27))⟩, ⟨(some 6), none, (.mv (.t 28))⟩]) .skip))) (.ops [⟨(some 14), none, (.mv (.t 7))⟩, ⟨(some 15), none, (.bin .add (.t 14) (.c (.int .i64 1)))⟩, ⟨(some 7), none, (.mv (.t 15))⟩])))))) (.seq (.ops [⟨(some 29), none, (.fld 3 (.t 2))⟩, ⟨(some 30), none, (.ld false 1 (.t 29))⟩, ⟨(some 8), none, (.mv (.t 30))⟩]) (.seq (.seq (.ops [⟨(some 31), none, (.mv (.t 8))⟩, ⟨(some 32), none, (.bin .lss (.t 31) (.c (.int .i64 0)))⟩]) (.cond (.t 32) (.ops [⟨(some 8), none, (.mv (.c (.int .i64 0)))⟩]) .skip)) (.seq (.seq (.ops [⟨(some 33), none, (.mv (.t 6))⟩, ⟨(some 34), none, (.len (.t 33))⟩, ⟨(some 35), none, (.mv (.t 8))⟩, ⟨(some 36), none, (.bin .leq (.t 34) (.t 35))⟩]) (.cond (.t 36) (.seq (.ops [⟨(some 37), none, (.mv (.t 6))⟩, ⟨(some 4), none, (.mv (.t 37))⟩, ⟨(some 5), none, (.mv (.c (.bool false)))⟩]) .ret) .skip)) (.fz 28 (.seq (.ops [⟨(some 38), none, (.buildSl 41 29 0 [(.int .i64 0), (.str []), (.str []), (.int .i64 0), (.bool false), (.str []), (.int .i64 0), (.int .i64 0), .e0, .e0, (.str []), (.int .i64 0), (.int .i64 0), (.bool false), (.str []), .e0, .e0, .e0, .e0, (.int .i64 0), (.int .i64 0), (.int .i64 0), (.int .i64 0), (.int .i64 0), (.int .i64 0), (.int .i64 0), (.int .i64 0), (.str []), (.int .i64 0)] [])⟩, ⟨(some 39), none, (.mv (.t 6))⟩, ⟨(some 40), none, (.mv (.t 6))⟩, ⟨(some 41), none, (.len (.t 40))⟩, ⟨(some 42), none, (.mv (.t 8))⟩, ⟨(some 43), none, (.bin .sub (.t 41) (.t 42))⟩, ⟨(some 44), none, (.sub 29 (.t 39) (some (.t 43)) none none)⟩, ⟨(some 45), none, (.app 41 29 376 (.t 38) (.t 44))⟩, ⟨(some 4), none, (.mv (.t 45))⟩, ⟨(some 5), none, (.mv (.c (.bool true)))⟩]) .ret))))))))
theorem tr17 : Try.f17.body.bind (trCode Try.prog) = some (strip ac17) := by kernel_rfl
theorem spec17 (f : Flt) (es : List Ev) (hb : es.length ≤ 1000) : Spec Try.prog 17 [.fz (.agg (encFl f)), .fz (.sl 29 (es.map encEv))] (.fz (.tup [.sl 29 ((cutL f es).1.map encEv), .bool (cutL f es).2])) := by
  refine spec_at (n := 44) (ars := [(.t 4), (.t 5)]) (ac := ac17) Try.func17 (by kernel_rfl) (by kernel_rfl) tr17 (by kernel_rfl) ?_
  unfold ac17
  iterate 8 (all_goals (try (first
    | (with_reducible refine ite_in (fun _ => ?_) (fun _ => ?_))
    | (with_reducible refine ⟨fun _ => ?_, fun _ => ?_⟩)
    | (with_reducible refine And.intro ?_ ?_)
    | (with_reducible intro _)
    | (with_reducible exact is_in _)
    | (simp -implicitDefEqProofs only [SD, SF, SL, e_nf, reduceCtorEq, implies_true, ↓reduceIte, Nat.reduceEqDiff, Nat.reduceAdd, Nat.reduceMul, Nat.reduceSub, Nat.reduceLeDiff, Nat.reduceLT, Int.reduceLT, Int.reduceLE, Int.reduceEq, Int.reduceToNat, Int.reduceAdd, Int.reduceSub, Int.reduceNeg, Int.reduceBEq, Int.reduceBNe, Nat.reduceBEq, Int.cast_ofNat_Int, decide_true, decide_false, ne_eq, eq_self_iff_true, beq_eq_false_iff_ne, bne_iff_ne, List.replicate, encFl, *]))))
  refine loop_r (X := List Ev × List Ev × (DV × List (Nat × Blk))) (fun n x => es = x.1 ++ x.2.1 ∧ n = x.2.1.length ∧ ((flL f x.1 = [] ∧ x.2.2 = (DV.ow 9, [(9, Blk.vec 41 29 ([]))])) ∨ x.2.2 = (DV.ow 28, [(28, Blk.vec 41 29 ((flL f x.1).map encEv))]))) (fun x => [(7, .int .i64 x.1.length), (6, x.2.2.1)]) (fun x => x.2.2.2) [10, 11, 12, 13, 14, 15, 16, 17, 18, 19, 20, 21, 22, 23, 24, 25, 26, 27, 28] [9, 27, 28] [27] (es).length ([], es, (DV.ow 9, [(9, Blk.vec 41 29 ([]))])) ⟨rfl, rfl, by exact .inl ⟨rfl, rfl⟩⟩ ?_ ?_
  · simp -implicitDefEqProofs only [SD, SF, SL, e_nf, reduceCtorEq, implies_true, ↓reduceIte, Nat.reduceEqDiff, Nat.reduceAdd, Nat.reduceMul, Nat.reduceSub, Nat.reduceLeDiff, Nat.reduceLT, Int.reduceLT, Int.reduceLE, Int.reduceEq, Int.reduceToNat, Int.reduceAdd, Int.reduceSub, Int.reduceNeg, Int.reduceBEq, Int.reduceBNe, Nat.reduceBEq, Int.cast_ofNat_Int, decide_true, decide_false, ne_eq, eq_self_iff_true, beq_eq_false_iff_ne, bne_iff_ne, List.replicate, encEv, encFl] <;> simp
  · rintro n ⟨pre, rest, a⟩ ⟨he, rfl, hI⟩
    dsimp only at he hI
    cases rest with
    | nil =>
      obtain rfl : es = pre := by simpa using he
      clear he
      have hlt : ¬ (((es).length : Int) < ((es).length : Int)) := Int.lt_irrefl _
      have hfl := fl_len f es
      have hze : (0 : Int) ≤ 0 := Int.le_refl 0
      by_cases hn : f.limit < 0
      all_goals by_cases hc : (flL f es).length ≤ f.limit.toNat
      all_goals rcases hI with ⟨hl0, rfl⟩ | rfl
      all_goals try (exfalso; rw [hl0] at hc; exact hc (Nat.zero_le _))
      all_goals (first
        | (have hq := cut_all hc; have hq1 : (cutL f es).1 = flL f es := (by rw [hq]); have hq2 : (cutL f es).2 = false := (by rw [hq]); clear hq)
        | (have hq := cut_some (Nat.lt_of_not_le hc); have hq1 : (cutL f es).1 = (flL f es).drop ((flL f es).length - f.limit.toNat) := (by rw [hq]); have hq2 : (cutL f es).2 = true := (by rw [hq]); clear hq))
      all_goals try (have hlz : (flL f es).length = 0 := (by rw [hl0]; rfl))
      all_goals try (first | (have hle : ((flL f es).length : Int) ≤ 0 := (by omega)) | (have hle : ¬ ((flL f es).length : Int) ≤ 0 := (by omega)))
      all_goals try (first | (have hlf : ((flL f es).length : Int) ≤ f.limit := (by omega)) | (have hlf : ¬ ((flL f es).length : Int) ≤ f.limit := (by omega)))
      all_goals try (have hl1 : 0 ≤ f.limit := (by omega))
      all_goals try (have hw1 : IntKind.i64.wrap (((flL f es).length : Int) - f.limit) = (((flL f es).length - f.limit.toNat : Nat) : Int) := (by rw [wrap_in (by omega) (by omega)]; omega))
      all_goals try (have hw2 : f.limit < 0 → IntKind.i64.wrap (((flL f es).length : Int) - 0) = (((flL f es).length - f.limit.toNat : Nat) : Int) := (fun h => by rw [wrap_in (by omega) (by omega)]; omega))
      all_goals try clear hlz
      all_goals try replace hl0 := Hd.mk hl0
      all_goals replace hc := Hd.mk hc
      all_goals try (have hc5 : (flL f es).length - f.limit.toNat ≤ (flL f es).length := Nat.sub_le _ _)
      iterate 40 (all_goals (try (first
        | ((with_reducible refine of_kSpec ?_); refine call_fz (spec15 f x) rfl ?_)
        | (with_reducible refine ite_in (fun _ => ?_) (fun _ => ?_))
        | (with_reducible refine ⟨fun _ => ?_, fun _ => ?_⟩)
        | (with_reducible refine And.intro ?_ ?_)
        | (with_reducible intro _)
        | (with_reducible exact is_in _)
        | (simp -implicitDefEqProofs only [SD, SF, SL, e_nf, reduceCtorEq, implies_true, ↓reduceIte, Nat.reduceEqDiff, Nat.reduceAdd, Nat.reduceMul, Nat.reduceSub, Nat.reduceLeDiff, Nat.reduceLT, Int.reduceLT, Int.reduceLE, Int.reduceEq, Int.reduceToNat, Int.reduceAdd, Int.reduceSub, Int.reduceNeg, Int.reduceBEq, Int.reduceBNe, Nat.reduceBEq, Int.cast_ofNat_Int, decide_true, decide_false, ne_eq, eq_self_iff_true, beq_eq_false_iff_ne, bne_iff_ne, List.replicate, encEv, encFl, *]))))
      all_goals (first | (rw [hl0.out]; first | exact .inl rfl | rfl | simp) | (simp only [maxLen, List.length_drop, List.length_take, List.length_map]; omega) | (simp only [List.length_drop, List.length_take, List.length_map]; omega) | (left; rw [List.take_of_length_le (by simp), List.map_drop]) | (simp [hq1, hq2]; done))

    | cons x rest =>
      have hlt := cut_lt he
      have hx := cutD encEv he
      simp only [encEv] at hx
      simp -implicitDefEqProofs only [SD, SF, SL, e_nf, reduceCtorEq, implies_true, ↓reduceIte, Nat.reduceEqDiff, Nat.reduceAdd, Nat.reduceMul, Nat.reduceSub, Nat.reduceLeDiff, Nat.reduceLT, Int.reduceLT, Int.reduceLE, Int.reduceEq, Int.reduceToNat, Int.reduceAdd, Int.reduceSub, Int.reduceNeg, Int.reduceBEq, Int.reduceBNe, Nat.reduceBEq, Int.cast_ofNat_Int, decide_true, decide_false, ne_eq, eq_self_iff_true, beq_eq_false_iff_ne, bne_iff_ne, List.replicate, encEv, encFl, hlt]
      intro hl
      have hw := wrap_len (n := pre.length) (m := (es).length) (cut_lt' he) (by simp only [maxLen]; omega)
      replace he := Hd.mk he
      have hz1 := cut_lt' he.out
      have hlo := fl_len f pre
      have hz2 : (flL f pre).length + 1 ≤ maxLen := by simp only [maxLen]; omega
      have hz3 : ((flL f pre).length + 1) * 376 ≤ 140737488355328 := by omega
      have hsn := fl_snoc f pre x
      rcases hI with ⟨hp0, rfl⟩ | rfl
      all_goals try replace hp0 := Hd.mk hp0
      all_goals by_cases hw1 : wants f x = true
      iterate 40 (all_goals (try (first
        | ((with_reducible refine back_in rest.length [10, 11, 12, 13, 14, 15, 16, 17, 18, 19, 20, 21, 22, 23, 24, 25, 26, 27, 28] [27] (pre ++ [x], rest, (DV.ow 9, [(9, Blk.vec 41 29 ([]))])) ?_ ⟨?_, ?_, ?_⟩ ?_)
           · simp
           · exact cut_snoc he.out
           · rfl
           · first | (left; refine ⟨?_, rfl⟩; rw [hsn, if_neg hw1]; exact hp0.out) | (right; rw [hsn, if_neg hw1]) | (right; rw [hsn, if_pos hw1, hp0.out]; rfl) | (right; rw [hsn, if_pos hw1, List.map_append]; rfl)
           · first | (simp -implicitDefEqProofs only [SD, SF, SL, e_nf, reduceCtorEq, implies_true, ↓reduceIte, Nat.reduceEqDiff, Nat.reduceAdd, Nat.reduceMul, Nat.reduceSub, Nat.reduceLeDiff, Nat.reduceLT, Int.reduceLT, Int.reduceLE, Int.reduceEq, Int.reduceToNat, Int.reduceAdd, Int.reduceSub, Int.reduceNeg, Int.reduceBEq, Int.reduceBNe, Nat.reduceBEq, Int.cast_ofNat_Int, decide_true, decide_false, ne_eq, eq_self_iff_true, beq_eq_false_iff_ne, bne_iff_ne, List.replicate, encEv, encFl] <;> simp <;> done) | (simp -implicitDefEqProofs only [SD, SF, SL, e_nf, reduceCtorEq, implies_true, ↓reduceIte, Nat.reduceEqDiff, Nat.reduceAdd, Nat.reduceMul, Nat.reduceSub, Nat.reduceLeDiff, Nat.reduceLT, Int.reduceLT, Int.reduceLE, Int.reduceEq, Int.reduceToNat, Int.reduceAdd, Int.reduceSub, Int.reduceNeg, Int.reduceBEq, Int.reduceBNe, Nat.reduceBEq, Int.cast_ofNat_Int, decide_true, decide_false, ne_eq, eq_self_iff_true, beq_eq_false_iff_ne, bne_iff_ne, List.replicate, encEv, encFl, *] <;> simp_all <;> done))
        | ((with_reducible refine back_in rest.length [10, 11, 12, 13, 14, 15, 16, 17, 18, 19, 20, 21, 22, 23, 24, 25, 26, 27, 28] [27] (pre ++ [x], rest, (DV.ow 28, [(28, Blk.vec 41 29 ((flL f pre).map encEv))])) ?_ ⟨?_, ?_, ?_⟩ ?_)
           · simp
           · exact cut_snoc he.out
           · rfl
           · first | (left; refine ⟨?_, rfl⟩; rw [hsn, if_neg hw1]; exact hp0.out) | (right; rw [hsn, if_neg hw1]) | (right; rw [hsn, if_pos hw1, hp0.out]; rfl) | (right; rw [hsn, if_pos hw1, List.map_append]; rfl)
           · first | (simp -implicitDefEqProofs only [SD, SF, SL, e_nf, reduceCtorEq, implies_true, ↓reduceIte, Nat.reduceEqDiff, Nat.reduceAdd, Nat.reduceMul, Nat.reduceSub, Nat.reduceLeDiff, Nat.reduceLT, Int.reduceLT, Int.reduceLE, Int.reduceEq, Int.reduceToNat, Int.reduceAdd, Int.reduceSub, Int.reduceNeg, Int.reduceBEq, Int.reduceBNe, Nat.reduceBEq, Int.cast_ofNat_Int, decide_true, decide_false, ne_eq, eq_self_iff_true, beq_eq_false_iff_ne, bne_iff_ne, List.replicate, encEv, encFl] <;> simp <;> done) | (simp -implicitDefEqProofs only [SD, SF, SL, e_nf, reduceCtorEq, implies_true, ↓reduceIte, Nat.reduceEqDiff, Nat.reduceAdd, Nat.reduceMul, Nat.reduceSub, Nat.reduceLeDiff, Nat.reduceLT, Int.reduceLT, Int.reduceLE, Int.reduceEq, Int.reduceToNat, Int.reduceAdd, Int.reduceSub, Int.reduceNeg, Int.reduceBEq, Int.reduceBNe, Nat.reduceBEq, Int.cast_ofNat_Int, decide_true, decide_false, ne_eq, eq_self_iff_true, beq_eq_false_iff_ne, bne_iff_ne, List.replicate, encEv, encFl, *] <;> simp_all <;> done))
        | ((with_reducible refine back_in rest.length [10, 11, 12, 13, 14, 15, 16, 17, 18, 19, 20, 21, 22, 23, 24, 25, 26, 27, 28] [27] (pre ++ [x], rest, (DV.ow 28, [(28, Blk.vec 41 29 ((flL f pre).map encEv ++ [encEv x]))])) ?_ ⟨?_, ?_, ?_⟩ ?_)
           · simp
           · exact cut_snoc he.out
           · rfl
           · first | (left; refine ⟨?_, rfl⟩; rw [hsn, if_neg hw1]; exact hp0.out) | (right; rw [hsn, if_neg hw1]) | (right; rw [hsn, if_pos hw1, hp0.out]; rfl) | (right; rw [hsn, if_pos hw1, List.map_append]; rfl)
           · first | (simp -implicitDefEqProofs only [SD, SF, SL, e_nf, reduceCtorEq, implies_true, ↓reduceIte, Nat.reduceEqDiff, Nat.reduceAdd, Nat.reduceMul, Nat.reduceSub, Nat.reduceLeDiff, Nat.reduceLT, Int.reduceLT, Int.reduceLE, Int.reduceEq, Int.reduceToNat, Int.reduceAdd, Int.reduceSub, Int.reduceNeg, Int.reduceBEq, Int.reduceBNe, Nat.reduceBEq, Int.cast_ofNat_Int, decide_true, decide_false, ne_eq, eq_self_iff_true, beq_eq_false_iff_ne, bne_iff_ne, List.replicate, encEv, encFl] <;> simp <;> done) | (simp -implicitDefEqProofs only [SD, SF, SL, e_nf, reduceCtorEq, implies_true, ↓reduceIte, Nat.reduceEqDiff, Nat.reduceAdd, Nat.reduceMul, Nat.reduceSub, Nat.reduceLeDiff, Nat.reduceLT, Int.reduceLT, Int.reduceLE, Int.reduceEq, Int.reduceToNat, Int.reduceAdd, Int.reduceSub, Int.reduceNeg, Int.reduceBEq, Int.reduceBNe, Nat.reduceBEq, Int.cast_ofNat_Int, decide_true, decide_false, ne_eq, eq_self_iff_true, beq_eq_false_iff_ne, bne_iff_ne, List.replicate, encEv, encFl, *] <;> simp_all <;> done))
        | ((with_reducible refine back_in rest.length [10, 11, 12, 13, 14, 15, 16, 17, 18, 19, 20, 21, 22, 23, 24, 25, 26, 27, 28] [27] (pre ++ [x], rest, (DV.ow 28, [(28, Blk.vec 41 29 ([encEv x]))])) ?_ ⟨?_, ?_, ?_⟩ ?_)
           · simp
           · exact cut_snoc he.out
           · rfl
           · first | (left; refine ⟨?_, rfl⟩; rw [hsn, if_neg hw1]; exact hp0.out) | (right; rw [hsn, if_neg hw1]) | (right; rw [hsn, if_pos hw1, hp0.out]; rfl) | (right; rw [hsn, if_pos hw1, List.map_append]; rfl)
           · first | (simp -implicitDefEqProofs only [SD, SF, SL, e_nf, reduceCtorEq, implies_true, ↓reduceIte, Nat.reduceEqDiff, Nat.reduceAdd, Nat.reduceMul, Nat.reduceSub, Nat.reduceLeDiff, Nat.reduceLT, Int.reduceLT, Int.reduceLE, Int.reduceEq, Int.reduceToNat, Int.reduceAdd, Int.reduceSub, Int.reduceNeg, Int.reduceBEq, Int.reduceBNe, Nat.reduceBEq, Int.cast_ofNat_Int, decide_true, decide_false, ne_eq, eq_self_iff_true, beq_eq_false_iff_ne, bne_iff_ne, List.replicate, encEv, encFl] <;> simp <;> done) | (simp -implicitDefEqProofs only [SD, SF, SL, e_nf, reduceCtorEq, implies_true, ↓reduceIte, Nat.reduceEqDiff, Nat.reduceAdd, Nat.reduceMul, Nat.reduceSub, Nat.reduceLeDiff, Nat.reduceLT, Int.reduceLT, Int.reduceLE, Int.reduceEq, Int.reduceToNat, Int.reduceAdd, Int.reduceSub, Int.reduceNeg, Int.reduceBEq, Int.reduceBNe, Nat.reduceBEq, Int.cast_ofNat_Int, decide_true, decide_false, ne_eq, eq_self_iff_true, beq_eq_false_iff_ne, bne_iff_ne, List.replicate, encEv, encFl, *] <;> simp_all <;> done))
        | ((with_reducible refine of_kSpec ?_); refine call_fz (spec15 f x) rfl ?_)
        | (with_reducible refine ite_in (fun _ => ?_) (fun _ => ?_))
        | (with_reducible refine ⟨fun _ => ?_, fun _ => ?_⟩)
        | (with_reducible refine And.intro ?_ ?_)
        | (with_reducible intro _)
        | (with_reducible exact is_in _)
        | (simp -implicitDefEqProofs only [SD, SF, SL, e_nf, reduceCtorEq, implies_true, ↓reduceIte, Nat.reduceEqDiff, Nat.reduceAdd, Nat.reduceMul, Nat.reduceSub, Nat.reduceLeDiff, Nat.reduceLT, Int.reduceLT, Int.reduceLE, Int.reduceEq, Int.reduceToNat, Int.reduceAdd, Int.reduceSub, Int.reduceNeg, Int.reduceBEq, Int.reduceBNe, Nat.reduceBEq, Int.cast_ofNat_Int, decide_true, decide_false, ne_eq, eq_self_iff_true, beq_eq_false_iff_ne, bne_iff_ne, List.replicate, encEv, encFl, *]))))
      all_goals (first | omega | (simp only [maxLen, List.length_append, List.length_map, List.length_cons, List.length_nil] <;> omega) | (simp_all; done))

end Go.Proofs.Ytamcbdflmephdaa.E
