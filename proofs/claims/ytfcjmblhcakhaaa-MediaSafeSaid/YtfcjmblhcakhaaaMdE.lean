/-
  MdE: walks of functions of the program at data level.
-/
import Derived.Test.YtfcjmblhcakhaaaProg
import Derived.Test.YtfcjmblhcakhaaaEngZ
import Derived.Test.YtfcjmblhcakhaaaMdD
import Derived.KernelRfl
set_option linter.unusedVariables false
set_option linter.unusedSimpArgs false
namespace Go.Proofs.Ytfcjmblhcakhaaa.E
open Go
set_option maxHeartbeats 4000000
set_option maxRecDepth 100000
set_option linter.unusedSimpArgs false
set_option linter.unusedVariables false
attribute [local congr] c_wp c_ops c_op c_opS c_run c_runS c_dt c_seq c_blk c_loop c_S c_put c_bind c_mv c_pick c_nt c_ng c_bin c_binI c_binS c_beq c_B c_eqa c_hd c_cells c_blkK c_box c_vec c_mp c_mkm c_mput c_mlk c_mrm c_take c_ld c_ldF c_cellsK c_st c_fld c_fldv c_ix c_ixp c_ixv c_ixs c_sub c_subs c_len c_lens c_src c_dst c_ow c_app c_ext c_mm c_conv c_str c_isn c_fill c_rows c_boxo c_frz c_frzO c_frzA c_frzV c_spec c_specO c_opsP c_opP c_runP c_specP c_Z c_qretP c_fz c_fn c_gv c_cond c_res1 c_resL c_ret c_qret c_ite c_unr c_nx c_bk c_cut c_is
attribute [local irreducible] dwp

theorem loop_r {P : Program} {Q : AE → DS → Prop} {X : Type} {c : AC} {E : List DV} {M : Mem} (R : Nat → X → Prop) (pe : X → List (Nat × DV)) (pm : X → List (Nat × Blk)) (ts0 ks ks0 : List Nat) (n0 : Nat) (x0 : X) (hR : R n0 x0)
    (h0 : forget ts0 ks0 ⟨E, M⟩ = ⟨pE (pe x0) (forgetE ts0 E), pM (pm x0) (msort (mdels ks M))⟩)
    (hr : ∀ n x, R n x → dwp P c ⟨pE (pe x) (forgetE ts0 E), pM (pm x) (msort (mdels ks M))⟩
      (kLoop (kBk R (fun x => ⟨pE (pe x) (forgetE ts0 E), pM (pm x) (msort (mdels ks M))⟩) n) Q)) : dwp P (.loop c) ⟨E, M⟩ Q := by
  unfold dwp
  refine ⟨fun n s => ∃ x, R n x ∧ s = ⟨pE (pe x) (forgetE ts0 E), pM (pm x) (msort (mdels ks M))⟩, n0, ts0, ks0, ⟨x0, hR, h0⟩, ?_⟩
  rintro n s ⟨x, hx, rfl⟩
  exact hr n x hx

theorem enc_len (e : Md) : (encMd e).length = 5 := rfl
theorem enc_fz (e : Md) : (encMd e).all isFz = true := rfl
theorem tw_at_end {l : List Md} {m : Md} (h : l.all (bm m) = true) : (insL l m).map encMd = l.map encMd ++ [encMd m] := by
  rw [insL, (tw_end h).1, (tw_end h).2, List.map_append]
  rfl
theorem tw_at {l pre : List Md} {x : Md} {rest : List Md} {m : Md} (he : l = pre ++ x :: rest) (h : pre.all (bm m) = true) (hx : bm m x = false) : (insL l m).map encMd = pre.map encMd ++ encMd m :: (l.map encMd).drop pre.length := by
  subst he
  rw [insL, (tw_mid hx h).1, (tw_mid hx h).2]
  simp only [List.map_append, List.map_cons]
  rw [List.drop_left' (by simp)]
def ac34 : AC := (.seq (.ops [⟨(some 3), none, (.box (.t 1))⟩, ⟨(some 4), none, (.mv (.c .e0))⟩]) (.seq (.ops [⟨(some 5), none, (.mv (.c .e0))⟩]) (.seq (.ops [⟨(some 6), none, (.mv (.c (.int .i64 0)))⟩]) (.seq (.block 0 (.loop (.seq (.seq (.draw (.q true ⟨(some 7), none, (.mv (.t 6))⟩ (.q false ⟨(some 8), none, (.mv (.t 0))⟩ (.op ⟨(some 9), none, (.len (.t 8))⟩ (.q false ⟨(some 10), none, (.bin .lss (.t 7) (.t 9))⟩ (.q false ⟨(some 11), none, (.mv (.t 10))⟩ (.q false ⟨(some 12), (some (11, true)), (.mv (.t 0))⟩ (.q false ⟨(some 13), (some (11, true)), (.mv (.t 6))⟩ (.q false ⟨(some 14), (some (11, true)), (.ix 5 (.t 12) (.t 13))⟩ (.q false ⟨(some 15), (some (11, true)), (.ld true 5 (.t 14))⟩ (.q false ⟨(some 16), (some (11, true)), (.fld 0 (.t 3))⟩ (.q false ⟨(some 17), (some (11, true)), (.ld false 1 (.t 16))⟩ (.q false ⟨(some 18), (some (11, true)), (.fld 1 (.t 3))⟩ (.q false ⟨(some 19), (some (11, true)), (.ld false 1 (.t 18))⟩ (.op ⟨(some 20), (some (11, true)), (.call false 32 [(.t 15), (.t 17), (.t 19)])⟩ (.q false ⟨(some 21), none, (.pick (.t 11) (.t 20) (.c (.bool false)))⟩ .nil)))))))))))))))) (.cond (.t 21) .skip (.exit 0))) (.block 1 (.seq (.ops [⟨(some 22), none, (.mv (.t 5))⟩, ⟨(some 23), none, (.mv (.t 0))⟩, ⟨(some 24), none, (.mv (.t 6))⟩, ⟨(some 25), none, (.ix 5 (.t 23) (.t 24))⟩, ⟨(some 26), none, (.ld true 5 (.t 25))⟩, ⟨(some 27), none, (.buildSl 26 5 1 [(.str []), (.str []), (.int .i64 0), (.int .i64 0), (.int .i64 0)] [(0, (.t 26))])⟩, ⟨(some 28), none, (.app 26 5 56 (.t 22) (.t 27))⟩, ⟨(some 5), none, (.mv (.t 28))⟩]) (.ops [⟨(some 29), none, (.mv (.t 6))⟩, ⟨(some 30), none, (.bin .add (.t 29) (.c (.int .i64 1)))⟩, ⟨(some 6), none, (.mv (.t 30))⟩])))))) (.seq (.ops [⟨(some 31), none, (.mv (.t 5))⟩, ⟨(some 32), none, (.ld true 5 (.t 3))⟩, ⟨(some 33), none, (.buildSl 26 5 1 [(.str []), (.str []), (.int .i64 0), (.int .i64 0), (.int .i64 0)] [(0, (.t 32))])⟩, ⟨(some 34), none, (.app 26 5 56 (.t 31) (.t 33))⟩, ⟨(some 5), none, (.mv (.t 34))⟩]) (.seq (.ops [⟨(some 35), none, (.mv (.t 5))⟩, ⟨(some 36), none, (.mv (.t 0))⟩, ⟨(some 37), none, (.mv (.t 6))⟩, ⟨(some 38), none, (.sub 5 (.t 36) (some (.t 37)) none none)⟩, ⟨(some 39), none, (.app 26 5 56 (.t 35) (.t 38))⟩, ⟨(some 4), none, (.mv (.t 39))⟩]) .ret))))))
theorem tr34 : Try.f34.body.bind (trCode Try.prog) = some (strip ac34) := by kernel_rfl
theorem spec34 (l : List Md) (m : Md) (hb : l.length ≤ 1000) : Spec Try.prog 34 [.fz (.sl 5 (l.map encMd)), .fz (.agg (encMd m))] (.own 26 5 ((insL l m).map encMd)) := by
  refine spec_at (n := 38) (ars := [(.t 4)]) (ac := ac34) Try.func34 (by kernel_rfl) (by kernel_rfl) tr34 (by kernel_rfl) ?_
  unfold ac34
  have htk : (l.map encMd).take l.length = l.map encMd := List.take_of_length_le (by simp)
  simp -implicitDefEqProofs only [SD, SF, SL, e_nf, reduceCtorEq, implies_true, ↓reduceIte, Nat.reduceEqDiff, Nat.reduceAdd, Nat.reduceMul, Nat.reduceSub, Nat.reduceLeDiff, Nat.reduceLT, Int.reduceLT, Int.reduceLE, Int.reduceEq, Int.reduceToNat, Int.reduceAdd, Int.reduceSub, Int.reduceNeg, Int.reduceBEq, Int.reduceBNe, Nat.reduceBEq, Int.cast_ofNat_Int, decide_true, decide_false, ne_eq, eq_self_iff_true, beq_eq_false_iff_ne, bne_iff_ne, List.replicate, encMd]
  refine loop_r (X := List Md × List Md × (DV × List (Nat × Blk))) (fun n x => l = x.1 ++ x.2.1 ∧ n = x.2.1.length ∧ (x.1.all (bm m) = true ∧ ((x.1 = [] ∧ x.2.2 = (DV.e0, [])) ∨ x.2.2 = (DV.ow 28, [(28, Blk.vec 26 5 (x.1.map encMd))])))) (fun x => [(6, .int .i64 x.1.length), (5, x.2.2.1)]) (fun x => x.2.2.2) [7, 8, 9, 10, 11, 12, 13, 14, 15, 16, 17, 18, 19, 20, 21, 22, 23, 24, 25, 26, 27, 28, 29, 30] [27, 28] [27] (l).length ([], l, (DV.e0, [])) ⟨rfl, rfl, by exact ⟨rfl, .inl ⟨rfl, rfl⟩⟩⟩ ?_ ?_
  · simp -implicitDefEqProofs only [SD, SF, SL, e_nf, reduceCtorEq, implies_true, ↓reduceIte, Nat.reduceEqDiff, Nat.reduceAdd, Nat.reduceMul, Nat.reduceSub, Nat.reduceLeDiff, Nat.reduceLT, Int.reduceLT, Int.reduceLE, Int.reduceEq, Int.reduceToNat, Int.reduceAdd, Int.reduceSub, Int.reduceNeg, Int.reduceBEq, Int.reduceBNe, Nat.reduceBEq, Int.cast_ofNat_Int, decide_true, decide_false, ne_eq, eq_self_iff_true, beq_eq_false_iff_ne, bne_iff_ne, List.replicate, encMd] <;> simp
  · rintro n ⟨pre, rest, a⟩ ⟨he, rfl, hI⟩
    dsimp only at he hI
    cases rest with
    | nil =>
      obtain rfl : l = pre := by simpa using he
      clear he
      have hlt : ¬ (((l).length : Int) < ((l).length : Int)) := Int.lt_irrefl _
      have hz2 : l.length + 1 ≤ maxLen := by simp only [maxLen]; omega
      have hz3 : (l.length + 1) * 56 ≤ 140737488355328 := by omega
      rcases hI with ⟨hI, ⟨hl0, rfl⟩ | rfl⟩
      all_goals try replace hl0 := Hd.mk hl0
      iterate 30 (all_goals (try (first
        | (with_reducible refine ite_in (fun _ => ?_) (fun _ => ?_))
        | (with_reducible refine ⟨fun _ => ?_, fun _ => ?_⟩)
        | (with_reducible refine And.intro ?_ ?_)
        | (with_reducible intro _)
        | (with_reducible exact is_in _)
        | (simp -implicitDefEqProofs only [SD, SF, SL, e_nf, reduceCtorEq, implies_true, ↓reduceIte, Nat.reduceEqDiff, Nat.reduceAdd, Nat.reduceMul, Nat.reduceSub, Nat.reduceLeDiff, Nat.reduceLT, Int.reduceLT, Int.reduceLE, Int.reduceEq, Int.reduceToNat, Int.reduceAdd, Int.reduceSub, Int.reduceNeg, Int.reduceBEq, Int.reduceBNe, Nat.reduceBEq, Int.cast_ofNat_Int, decide_true, decide_false, ne_eq, eq_self_iff_true, beq_eq_false_iff_ne, bne_iff_ne, List.replicate, encMd, encMd, *]))))
      all_goals (first | decide | (simp only [maxLen, List.length_append, List.length_map, List.length_cons, List.length_nil, List.length_drop, htk] <;> omega) | omega | (have hl := hl0.out; subst hl; simp [insL, encMd]; done) | (have hp := hp0.out; rw [tw_at he.out hI (by simp_all [bm]), hp]; simp [htk, encMd]; done) | (rw [tw_at_end hI]; simp_all [encMd]; done) | (rw [tw_at he.out hI (by simp_all [bm])]; simp_all [encMd]; done) | (simp_all; done))

    | cons x rest =>
      have hlt := cut_lt he
      have hx := cutD encMd he
      simp only [encMd] at hx
      simp -implicitDefEqProofs only [SD, SF, SL, e_nf, reduceCtorEq, implies_true, ↓reduceIte, Nat.reduceEqDiff, Nat.reduceAdd, Nat.reduceMul, Nat.reduceSub, Nat.reduceLeDiff, Nat.reduceLT, Int.reduceLT, Int.reduceLE, Int.reduceEq, Int.reduceToNat, Int.reduceAdd, Int.reduceSub, Int.reduceNeg, Int.reduceBEq, Int.reduceBNe, Nat.reduceBEq, Int.cast_ofNat_Int, decide_true, decide_false, ne_eq, eq_self_iff_true, beq_eq_false_iff_ne, bne_iff_ne, List.replicate, encMd, hlt]
      intro hl
      have hw := wrap_len (n := pre.length) (m := (l).length) (cut_lt' he) (by simpa using hl)
      replace he := Hd.mk he
      have hz1 := cut_lt' he.out
      have hz2 : pre.length + 1 ≤ maxLen := by simp only [maxLen]; omega
      have hz3 : (pre.length + 1) * 56 ≤ 140737488355328 := by omega
      have hz4 : (pre.length + 1) + (l.length - pre.length) ≤ maxLen := by simp only [maxLen]; omega
      have hz5 : ((pre.length + 1) + (l.length - pre.length)) * 56 ≤ 140737488355328 := by omega
      have hz6 : 1 + (l.length - 0) ≤ maxLen := by simp only [maxLen]; omega
      have hz7 : (pre.length : Int) ≤ l.length := by omega
      rcases hI with ⟨hI, ⟨hp0, rfl⟩ | rfl⟩
      all_goals try replace hp0 := Hd.mk hp0
      iterate 30 (all_goals (try (first
        | ((with_reducible refine back_in rest.length [7, 8, 9, 10, 11, 12, 13, 14, 15, 16, 17, 18, 19, 20, 21, 22, 23, 24, 25, 26, 27, 28, 29, 30] [27] (pre ++ [x], rest, (DV.ow 28, [(28, Blk.vec 26 5 (pre.map encMd ++ [encMd x]))])) ?_ ⟨?_, ?_, ?_⟩ ?_)
           · simp
           · exact cut_snoc he.out
           · rfl
           · first | exact ⟨all_snoc hI (by simp_all [bm]), .inr (by rw [List.map_append]; rfl)⟩ | exact ⟨all_snoc hI (by simp_all [bm]), .inr (by rw [hp0.out]; rfl)⟩
           · first | (simp -implicitDefEqProofs only [SD, SF, SL, e_nf, reduceCtorEq, implies_true, ↓reduceIte, Nat.reduceEqDiff, Nat.reduceAdd, Nat.reduceMul, Nat.reduceSub, Nat.reduceLeDiff, Nat.reduceLT, Int.reduceLT, Int.reduceLE, Int.reduceEq, Int.reduceToNat, Int.reduceAdd, Int.reduceSub, Int.reduceNeg, Int.reduceBEq, Int.reduceBNe, Nat.reduceBEq, Int.cast_ofNat_Int, decide_true, decide_false, ne_eq, eq_self_iff_true, beq_eq_false_iff_ne, bne_iff_ne, List.replicate, encMd] <;> simp <;> done) | (simp -implicitDefEqProofs only [SD, SF, SL, e_nf, reduceCtorEq, implies_true, ↓reduceIte, Nat.reduceEqDiff, Nat.reduceAdd, Nat.reduceMul, Nat.reduceSub, Nat.reduceLeDiff, Nat.reduceLT, Int.reduceLT, Int.reduceLE, Int.reduceEq, Int.reduceToNat, Int.reduceAdd, Int.reduceSub, Int.reduceNeg, Int.reduceBEq, Int.reduceBNe, Nat.reduceBEq, Int.cast_ofNat_Int, decide_true, decide_false, ne_eq, eq_self_iff_true, beq_eq_false_iff_ne, bne_iff_ne, List.replicate, encMd, *] <;> simp_all <;> done))
        | ((with_reducible refine back_in rest.length [7, 8, 9, 10, 11, 12, 13, 14, 15, 16, 17, 18, 19, 20, 21, 22, 23, 24, 25, 26, 27, 28, 29, 30] [27] (pre ++ [x], rest, (DV.ow 28, [(28, Blk.vec 26 5 [encMd x])])) ?_ ⟨?_, ?_, ?_⟩ ?_)
           · simp
           · exact cut_snoc he.out
           · rfl
           · first | exact ⟨all_snoc hI (by simp_all [bm]), .inr (by rw [List.map_append]; rfl)⟩ | exact ⟨all_snoc hI (by simp_all [bm]), .inr (by rw [hp0.out]; rfl)⟩
           · first | (simp -implicitDefEqProofs only [SD, SF, SL, e_nf, reduceCtorEq, implies_true, ↓reduceIte, Nat.reduceEqDiff, Nat.reduceAdd, Nat.reduceMul, Nat.reduceSub, Nat.reduceLeDiff, Nat.reduceLT, Int.reduceLT, Int.reduceLE, Int.reduceEq, Int.reduceToNat, Int.reduceAdd, Int.reduceSub, Int.reduceNeg, Int.reduceBEq, Int.reduceBNe, Nat.reduceBEq, Int.cast_ofNat_Int, decide_true, decide_false, ne_eq, eq_self_iff_true, beq_eq_false_iff_ne, bne_iff_ne, List.replicate, encMd] <;> simp <;> done) | (simp -implicitDefEqProofs only [SD, SF, SL, e_nf, reduceCtorEq, implies_true, ↓reduceIte, Nat.reduceEqDiff, Nat.reduceAdd, Nat.reduceMul, Nat.reduceSub, Nat.reduceLeDiff, Nat.reduceLT, Int.reduceLT, Int.reduceLE, Int.reduceEq, Int.reduceToNat, Int.reduceAdd, Int.reduceSub, Int.reduceNeg, Int.reduceBEq, Int.reduceBNe, Nat.reduceBEq, Int.cast_ofNat_Int, decide_true, decide_false, ne_eq, eq_self_iff_true, beq_eq_false_iff_ne, bne_iff_ne, List.replicate, encMd, *] <;> simp_all <;> done))
        | ((with_reducible refine of_kSpec ?_)
           refine call_sub (ds' := [.agg (encMd x), .str m.server, .str m.name]) (spec32 x m.server m.name) rfl ?_ ?_
           · simp -implicitDefEqProofs only [SD, SF, SL, e_nf, reduceCtorEq, implies_true, ↓reduceIte, Nat.reduceEqDiff, Nat.reduceAdd, Nat.reduceMul, Nat.reduceSub, Nat.reduceLeDiff, Nat.reduceLT, Int.reduceLT, Int.reduceLE, Int.reduceEq, Int.reduceToNat, Int.reduceAdd, Int.reduceSub, Int.reduceNeg, Int.reduceBEq, Int.reduceBNe, Nat.reduceBEq, Int.cast_ofNat_Int, decide_true, decide_false, ne_eq, eq_self_iff_true, beq_eq_false_iff_ne, bne_iff_ne, List.replicate, encMd, *]
             done)
        | (with_reducible refine ite_in (fun _ => ?_) (fun _ => ?_))
        | (with_reducible refine ⟨fun _ => ?_, fun _ => ?_⟩)
        | (with_reducible refine And.intro ?_ ?_)
        | (with_reducible intro _)
        | (with_reducible exact is_in _)
        | (simp -implicitDefEqProofs only [SD, SF, SL, e_nf, reduceCtorEq, implies_true, ↓reduceIte, Nat.reduceEqDiff, Nat.reduceAdd, Nat.reduceMul, Nat.reduceSub, Nat.reduceLeDiff, Nat.reduceLT, Int.reduceLT, Int.reduceLE, Int.reduceEq, Int.reduceToNat, Int.reduceAdd, Int.reduceSub, Int.reduceNeg, Int.reduceBEq, Int.reduceBNe, Nat.reduceBEq, Int.cast_ofNat_Int, decide_true, decide_false, ne_eq, eq_self_iff_true, beq_eq_false_iff_ne, bne_iff_ne, List.replicate, encMd, *]))))
      all_goals (first | decide | (simp only [maxLen, List.length_append, List.length_map, List.length_cons, List.length_nil, List.length_drop, htk] <;> omega) | omega | (have hl := hl0.out; subst hl; simp [insL, encMd]; done) | (have hp := hp0.out; rw [tw_at he.out hI (by simp_all [bm]), hp]; simp [htk, encMd]; done) | (rw [tw_at_end hI]; simp_all [encMd]; done) | (rw [tw_at he.out hI (by simp_all [bm])]; simp_all [encMd]; done) | (simp_all; done))

end Go.Proofs.Ytfcjmblhcakhaaa.E
