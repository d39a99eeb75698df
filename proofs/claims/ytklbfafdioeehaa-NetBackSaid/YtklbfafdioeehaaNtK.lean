/-
  NtK: walks of functions of the program at data level.
-/
import Derived.Test.YtklbfafdioeehaaProg
import Derived.Test.YtklbfafdioeehaaEngZ
import Derived.Test.YtklbfafdioeehaaNtJ
import Derived.KernelRfl
set_option linter.unusedVariables false
set_option linter.unusedSimpArgs false
namespace Go.Proofs.Ytklbfafdioeehaa.E
open Go
set_option maxHeartbeats 4000000
set_option maxRecDepth 100000
set_option linter.unusedSimpArgs false
set_option linter.unusedVariables false
attribute [local congr] c_wp c_ops c_op c_opS c_run c_runS c_dt c_seq c_blk c_loop c_S c_put c_bind c_mv c_pick c_nt c_ng c_bin c_binI c_binS c_beq c_B c_eqa c_hd c_cells c_blkK c_box c_vec c_mp c_nck c_mks c_appn c_mkm c_mput c_mlk c_mrm c_take c_ld c_ldF c_cellsK c_st c_fld c_fldv c_ix c_ixp c_ixv c_ixs c_sub c_subs c_len c_lens c_src c_dst c_ow c_app c_ext c_mm c_conv c_str c_isn c_fill c_rows c_boxo c_frz c_frzO c_frzA c_frzV c_spec c_specO c_opsP c_opP c_runP c_specP c_Z c_qretP c_fz c_fn c_gv c_cond c_res1 c_resL c_ret c_qret c_ite c_unr c_nx c_bk c_cut c_is
attribute [local irreducible] dwp

def outS (iz : Bool) (q : Lk) (l : List Lk) : List Lk × Bool := if iz = true then (if l.all (fun y => !gtL y q) = true then (l, false) else (insB l q, true)) else (l, true)
theorem insB_snoc (q y : Lk) : ∀ {l : List Lk}, l.all (fun y => !gtL y q) = false → insB (l ++ [y]) q = insB l q ++ [y]
  | [], h => by simp at h
  | z :: l, h => by
    cases hz : gtL z q with
    | true =>
      unfold insB
      rw [List.cons_append, List.takeWhile_cons, List.dropWhile_cons, List.takeWhile_cons, List.dropWhile_cons, hz]
      rfl
    | false =>
      simp only [List.all_cons, hz, Bool.not_false, Bool.true_and] at h
      have ih := insB_snoc q y h
      unfold insB at ih ⊢
      rw [List.cons_append, List.takeWhile_cons, List.dropWhile_cons, List.takeWhile_cons, List.dropWhile_cons, hz]
      simp only [Bool.not_false, if_true, List.cons_append, ih]
theorem outS_snoc (iz : Bool) (q : Lk) (l : List Lk) (x : Lk) : outS iz q (l ++ [x]) = if (outS iz q l).2 = true then ((outS iz q l).1 ++ [x], true) else if gtL x q = true then ((outS iz q l).1 ++ [q, x], true) else ((outS iz q l).1 ++ [x], false) := by
  unfold outS
  cases iz
  · simp
  · simp only [if_true]
    by_cases h : l.all (fun y => !gtL y q) = true
    · rw [if_pos h]
      cases hg : gtL x q with
      | true =>
        have h2 : ¬ (l ++ [x]).all (fun y => !gtL y q) = true := by rw [List.all_append, h]; simp [hg]
        rw [if_neg h2, (insB_mid (l := l ++ [x]) rfl h hg).1]
        simp
      | false =>
        rw [if_pos (all_snoc h (by simp [hg]))]
        simp
    · have h2 : ¬ (l ++ [x]).all (fun y => !gtL y q) = true := by
        rw [List.all_append]
        simp only [Bool.and_eq_true]
        exact fun h3 => h h3.1
      rw [if_neg h, if_neg h2, insB_snoc q x (by simpa using h)]
      simp
theorem outS_len (iz : Bool) (q : Lk) (l : List Lk) : (outS iz q l).1.length ≤ l.length + 1 := by
  have h2 : (insB l q).length = l.length + 1 := by
    unfold insB
    have := congrArg List.length (List.takeWhile_append_dropWhile (p := fun y => !gtL y q) (l := l))
    simp only [List.length_append, List.length_cons] at this ⊢
    omega
  unfold outS
  split
  · split
    · simp
    · simp only [h2]; omega
  · simp
theorem out_cut (nw : Ntw) (u v : List UInt8) (iz : Bool) : cutR nw u v iz = ⟨nw.packets, if (outS iz (prR u v) (keepL u v nw.cuts)).2 = true then (outS iz (prR u v) (keepL u v nw.cuts)).1 else (outS iz (prR u v) (keepL u v nw.cuts)).1 ++ [prR u v]⟩ := by
  unfold cutR outS
  cases iz
  · rfl
  · simp only [if_true]
    by_cases h : (keepL u v nw.cuts).all (fun y => !gtL y (prR u v)) = true
    · rw [if_pos h, (insB_end h).1]
      simp
    · rw [if_neg h]
      rfl
theorem sizes_ok {n : Nat} (h : n ≤ 2000) : n + 1 + 1 ≤ maxLen ∧ (n + 1 + 1) * 32 ≤ 140737488355328 ∧ n + 1 ≤ maxLen ∧ (n + 1) * 32 ≤ 140737488355328 := by
  simp only [maxLen]
  omega
theorem use_nx {α : Type} {I : α → Prop} {G : Prop} (c : α) (h : I c) (k : ∀ nx, nx = c → I nx → G) : G := k c rfl h
theorem gt_cases (x : Lk) (c d : List UInt8) : (gtL x (c, d) = true ∧ (Op.bytesLess x.1 c || x.1 == c) = false) ∨ (gtL x (c, d) = true ∧ x.1 = c ∧ (Op.bytesLess x.2 d || x.2 == d) = false) ∨ (gtL x (c, d) = false ∧ (Op.bytesLess x.1 c || x.1 == c) = true ∧ ¬ x.1 = c) ∨ (gtL x (c, d) = false ∧ x.1 = c ∧ (Op.bytesLess x.2 d || x.2 == d) = true) := by
  unfold gtL
  dsimp only
  by_cases h : x.1 = c
  · subst h
    cases h2 : (Op.bytesLess x.2 d || x.2 == d) <;> simp [less_irr]
  · have h1 : (x.1 == c) = false := by simpa using h
    rw [h1]
    cases h3 : Op.bytesLess x.1 c <;> simp [h]
def ac16 : AC := (.seq (.ops [⟨(some 4), none, (.box (.t 0))⟩, ⟨(some 8), none, (.alloc [.e0, .e0])⟩]) (.seq (.ops [⟨(some 9), none, (.mv (.c .e0))⟩]) (.seq (.ops [⟨(some 13), none, (.mv (.t 1))⟩, ⟨(some 14), none, (.mv (.t 2))⟩, ⟨(some 15), none, (.build [(.str []), (.str [])] [(0, (1, (.t 13))), (1, (1, (.t 14)))])⟩, ⟨(some 10), none, (.alloc [(.str []), (.str [])])⟩, ⟨none, none, (.sto 2 (.t 10) (.t 15))⟩]) (.seq (.seq (.ops [⟨(some 16), none, (.mv (.t 2))⟩, ⟨(some 17), none, (.mv (.t 1))⟩, ⟨(some 18), none, (.bin .lss (.t 16) (.t 17))⟩]) (.cond (.t 18) (.ops [⟨(some 19), none, (.mv (.t 2))⟩, ⟨(some 20), none, (.mv (.t 1))⟩, ⟨(some 21), none, (.build [(.str []), (.str [])] [(0, (1, (.t 19))), (1, (1, (.t 20)))])⟩, ⟨none, none, (.sto 2 (.t 10) (.t 21))⟩]) .skip)) (.seq (.ops [⟨(some 22), none, (.mv (.t 3))⟩, ⟨(some 23), none, (.nt (.t 22))⟩, ⟨(some 11), none, (.mv (.t 23))⟩]) (.seq (.seq (.ops [⟨(some 12), none, (.mv (.c (.int .i64 0)))⟩]) (.block 0 (.loop (.seq (.seq (.ops [⟨(some 24), none, (.mv (.t 12))⟩, ⟨(some 25), none, (.fld 1 (.t 4))⟩, ⟨(some 26), none, (.ld false 1 (.t 25))⟩, ⟨(some 27), none, (.len (.t 26))⟩, ⟨(some 28), none, (.bin .lss (.t 24) (.t 27))⟩]) (.cond (.t 28) .skip (.exit 0))) (.seq (.block 1 (.seq (.seq (.ops [⟨(some 31), none, (.fld 1 (.t 4))⟩, ⟨(some 32), none, (.ld false 1 (.t 31))⟩, ⟨(some 33), none, (.mv (.t 12))⟩, ⟨(some 34), none, (.ix 2 (.t 32) (.t 33))⟩, ⟨(some 35), none, (.ld true 2 (.t 34))⟩, ⟨(some 36), none, (.mv (.t 1))⟩, ⟨(some 37), none, (.mv (.t 2))⟩, ⟨(some 38), none, (.call false 32 [(.t 35), (.t 36), (.t 37)])⟩]) (.cond (.t 38) (.exit 1) .skip)) (.seq (.seq (.draw (.q false ⟨(some 39), none, (.mv (.t 11))⟩ (.q false ⟨(some 40), none, (.nt (.t 39))⟩ (.q false ⟨(some 41), none, (.mv (.t 40))⟩ (.q false ⟨(some 42), (some (41, true)), (.fld 1 (.t 4))⟩ (.q false ⟨(some 43), (some (41, true)), (.ld false 1 (.t 42))⟩ (.q false ⟨(some 44), (some (41, true)), (.mv (.t 12))⟩ (.q false ⟨(some 45), (some (41, true)), (.ix 2 (.t 43) (.t 44))⟩ (.q false ⟨(some 46), (some (41, true)), (.ixp 2 1 (.t 45) (.c (.int .i64 0)))⟩ (.q false ⟨(some 47), (some (41, true)), (.ld false 1 (.t 46))⟩ (.q false ⟨(some 48), (some (41, true)), (.ixp 2 1 (.t 10) (.c (.int .i64 0)))⟩ (.q false ⟨(some 49), (some (41, true)), (.ld false 1 (.t 48))⟩ (.q false ⟨(some 50), (some (41, true)), (.bin .gtr (.t 47) (.t 49))⟩ (.q false ⟨(some 51), (some (41, true)), (.mv (.t 50))⟩ (.q false ⟨(some 52), (some (51, false)), (.fld 1 (.t 4))⟩ (.q false ⟨(some 53), (some (51, false)), (.ld false 1 (.t 52))⟩ (.q false ⟨(some 54), (some (51, false)), (.mv (.t 12))⟩ (.q false ⟨(some 55), (some (51, false)), (.ix 2 (.t 53) (.t 54))⟩ (.q false ⟨(some 56), (some (51, false)), (.ixp 2 1 (.t 55) (.c (.int .i64 0)))⟩ (.q false ⟨(some 57), (some (51, false)), (.ld false 1 (.t 56))⟩ (.q false ⟨(some 58), (some (51, false)), (.ixp 2 1 (.t 10) (.c (.int .i64 0)))⟩ (.q false ⟨(some 59), (some (51, false)), (.ld false 1 (.t 58))⟩ (.q false ⟨(some 60), (some (51, false)), (.bin .eql (.t 57) (.t 59))⟩ (.q false ⟨(some 61), (some (51, false)), (.mv (.t 60))⟩ (.q false ⟨(some 62), (some (61, true)), (.fld 1 (.t 4))⟩ (.q false ⟨(some 63), (some (61, true)), (.ld false 1 (.t 62))⟩ (.q false ⟨(some 64), (some (61, true)), (.mv (.t 12))⟩ (.q false ⟨(some 65), (some (61, true)), (.ix 2 (.t 63) (.t 64))⟩ (.q false ⟨(some 66), (some (61, true)), (.ixp 2 1 (.t 65) (.c (.int .i64 1)))⟩ (.q false ⟨(some 67), (some (61, true)), (.ld false 1 (.t 66))⟩ (.q false ⟨(some 68), (some (61, true)), (.ixp 2 1 (.t 10) (.c (.int .i64 1)))⟩ (.q false ⟨(some 69), (some (61, true)), (.ld false 1 (.t 68))⟩ (.q false ⟨(some 70), (some (61, true)), (.bin .gtr (.t 67) (.t 69))⟩ (.q false ⟨(some 71), (some (51, false)), (.pick (.t 61) (.t 70) (.c (.bool false)))⟩ (.q false ⟨(some 72), (some (41, true)), (.pick (.t 51) (.c (.bool true)) (.t 71))⟩ (.q false ⟨(some 73), none, (.pick (.t 41) (.t 72) (.c (.bool false)))⟩ .nil)))))))))))))))))))))))))))))))))))) (.cond (.t 73) (.seq (.ops [⟨(some 74), none, (.mv (.t 9))⟩, ⟨(some 75), none, (.ld true 2 (.t 10))⟩, ⟨(some 76), none, (.buildSl 49 2 1 [(.str []), (.str [])] [(0, (.t 75))])⟩, ⟨(some 77), none, (.app 49 2 32 (.t 74) (.t 76))⟩, ⟨(some 9), none, (.mv (.t 77))⟩]) (.ops [⟨(some 11), none, (.mv (.c (.bool true)))⟩])) .skip)) (.ops [⟨(some 78), none, (.mv (.t 9))⟩, ⟨(some 79), none, (.fld 1 (.t 4))⟩, ⟨(some 80), none, (.ld false 1 (.t 79))⟩, ⟨(some 81), none, (.mv (.t 12))⟩, ⟨(some 82), none, (.ix 2 (.t 80) (.t 81))⟩, ⟨(some 83), none, (.ld true 2 (.t 82))⟩, ⟨(some 84), none, (.buildSl 49 2 1 [(.str []), (.str [])] [(0, (.t 83))])⟩, ⟨(some 85), none, (.app 49 2 32 (.t 78) (.t 84))⟩, ⟨(some 9), none, (.mv (.t 85))⟩])))) (.ops [⟨(some 29), none, (.mv (.t 12))⟩, ⟨(some 30), none, (.bin .add (.t 29) (.c (.int .i64 1)))⟩, ⟨(some 12), none, (.mv (.t 30))⟩])))))) (.seq (.seq (.ops [⟨(some 86), none, (.mv (.t 11))⟩, ⟨(some 87), none, (.nt (.t 86))⟩]) (.cond (.t 87) (.ops [⟨(some 88), none, (.mv (.t 9))⟩, ⟨(some 89), none, (.ld true 2 (.t 10))⟩, ⟨(some 90), none, (.buildSl 49 2 1 [(.str []), (.str [])] [(0, (.t 89))])⟩, ⟨(some 91), none, (.app 49 2 32 (.t 88) (.t 90))⟩, ⟨(some 9), none, (.mv (.t 91))⟩]) .skip)) (.seq (.ops [⟨(some 92), none, (.mv (.t 9))⟩, ⟨(some 93), none, (.fld 1 (.t 4))⟩, ⟨none, none, (.sto 1 (.t 93) (.t 92))⟩]) (.seq (.ops [⟨(some 94), none, (.ld true 2 (.t 4))⟩, ⟨none, none, (.sto 2 (.t 8) (.t 94))⟩]) .ret)))))))))
theorem tr16 : Try.f16.body.bind (trCode Try.prog) = some (strip ac16) := by kernel_rfl
theorem spec16 (nw : Ntw) (u v : List UInt8) (iz : Bool) (hc : nw.cuts.length ≤ 1000) : Spec Try.prog 16 [.fz (.agg (encNw nw)), .fz (.str u), .fz (.str v), .fz (.bool iz)] (.fz (.agg (encNw (cutR nw u v iz)))) := by
  refine spec_at (n := 91) (ars := [(.c true 2 8)]) (ac := ac16) Try.func16 (by kernel_rfl) (by kernel_rfl) tr16 (by kernel_rfl) ?_
  unfold ac16
  have hcm : nw.cuts.length ≤ maxLen := by simp only [maxLen]; omega
  cases hba : Op.bytesLess v u
  · have hpr : prR u v = (u, v) := by simp [prR, hba]
    iterate 24 (all_goals (try (first
      | (with_reducible refine ite_in (fun _ => ?_) (fun _ => ?_))
      | (with_reducible refine ⟨fun _ => ?_, fun _ => ?_⟩)
      | (with_reducible refine And.intro ?_ ?_)
      | (with_reducible intro _)
      | (with_reducible exact is_in _)
      | (simp -implicitDefEqProofs only [SD, SF, SL, e_nf, reduceCtorEq, implies_true, ↓reduceIte, Nat.reduceEqDiff, Nat.reduceAdd, Nat.reduceMul, Nat.reduceSub, Nat.reduceLeDiff, Nat.reduceLT, Int.reduceLT, Int.reduceLE, Int.reduceEq, Int.reduceToNat, Int.reduceAdd, Int.reduceSub, Int.reduceNeg, Int.reduceBEq, Int.reduceBNe, Nat.reduceBEq, Int.cast_ofNat_Int, decide_true, decide_false, ne_eq, eq_self_iff_true, beq_eq_false_iff_ne, bne_iff_ne, List.replicate, encNw, encLk, less_irr, beq_self_eq_true, *]))))
    refine loop_r (X := List Lk × List Lk × (DV × List (Nat × Blk) × Bool)) (fun n x => nw.cuts = x.1 ++ x.2.1 ∧ n = x.2.1.length ∧ (((outS iz (prR u v) (keepL u v x.1)).1 = [] ∧ x.2.2 = (DV.e0, [], (outS iz (prR u v) (keepL u v x.1)).2)) ∨ x.2.2 = (DV.ow 85, [(85, Blk.vec 49 2 ((outS iz (prR u v) (keepL u v x.1)).1.map encLk))], (outS iz (prR u v) (keepL u v x.1)).2))) (fun x => [(12, .int .i64 x.1.length), (9, x.2.2.1), (11, .bool x.2.2.2.2)]) (fun x => x.2.2.2.1) [24, 25, 26, 27, 28, 29, 30, 31, 32, 33, 34, 35, 36, 37, 38, 39, 40, 41, 42, 43, 44, 45, 46, 47, 48, 49, 50, 51, 52, 53, 54, 55, 56, 57, 58, 59, 60, 61, 62, 63, 64, 65, 66, 67, 68, 69, 70, 71, 72, 73, 74, 75, 76, 77, 78, 79, 80, 81, 82, 83, 84, 85] [76, 77, 84, 85] [76, 77, 84] (nw.cuts).length ([], nw.cuts, (DV.e0, [], !iz)) ⟨rfl, rfl, by cases iz <;> exact .inl ⟨rfl, rfl⟩⟩ ?_ ?_
    · simp -implicitDefEqProofs only [SD, SF, SL, e_nf, reduceCtorEq, implies_true, ↓reduceIte, Nat.reduceEqDiff, Nat.reduceAdd, Nat.reduceMul, Nat.reduceSub, Nat.reduceLeDiff, Nat.reduceLT, Int.reduceLT, Int.reduceLE, Int.reduceEq, Int.reduceToNat, Int.reduceAdd, Int.reduceSub, Int.reduceNeg, Int.reduceBEq, Int.reduceBNe, Nat.reduceBEq, Int.cast_ofNat_Int, decide_true, decide_false, ne_eq, eq_self_iff_true, beq_eq_false_iff_ne, bne_iff_ne, List.replicate, encNw, encLk, less_irr, beq_self_eq_true] <;> simp
    · rintro n ⟨pre, rest, a⟩ ⟨he, rfl, hI⟩
      dsimp only at he hI
      cases rest with
      | nil =>
        obtain rfl : nw.cuts = pre := by simpa using he
        clear he
        have hlt : ¬ (((nw.cuts).length : Int) < ((nw.cuts).length : Int)) := Int.lt_irrefl _
        have hq := out_cut nw u v iz
        obtain ⟨⟨xs, dn⟩, hxs⟩ : ∃ r, r = outS iz (prR u v) (keepL u v nw.cuts) := ⟨_, rfl⟩
        have hz2 := outS_len iz (prR u v) (keepL u v nw.cuts)
        have hz3 := keep_len u v nw.cuts
        rw [← hxs] at hI hq hz2
        dsimp only at hI hq hz2
        have hz8 : xs.length ≤ 2000 := by omega
        clear hxs
        cases dn
        all_goals simp only [if_true, if_false, Bool.false_eq_true] at hq
        all_goals rcases hI with ⟨rfl, rfl⟩ | rfl
        all_goals try rw [hpr] at hq
        iterate 26 (all_goals (try (first
          | (with_reducible refine ite_in (fun _ => ?_) (fun _ => ?_))
          | (with_reducible refine ⟨fun _ => ?_, fun _ => ?_⟩)
          | (with_reducible refine And.intro ?_ ?_)
          | (with_reducible intro _)
          | (with_reducible exact is_in _)
          | (simp -implicitDefEqProofs only [SD, SF, SL, e_nf, reduceCtorEq, implies_true, ↓reduceIte, Nat.reduceEqDiff, Nat.reduceAdd, Nat.reduceMul, Nat.reduceSub, Nat.reduceLeDiff, Nat.reduceLT, Int.reduceLT, Int.reduceLE, Int.reduceEq, Int.reduceToNat, Int.reduceAdd, Int.reduceSub, Int.reduceNeg, Int.reduceBEq, Int.reduceBNe, Nat.reduceBEq, Int.cast_ofNat_Int, decide_true, decide_false, ne_eq, eq_self_iff_true, beq_eq_false_iff_ne, bne_iff_ne, List.replicate, encNw, encLk, less_irr, beq_self_eq_true, *]))))
        all_goals (first
          | (simp only [hq]; done)
          | (simp only [hq]; rfl)
          | (simp [hq, encLk]; done)
          | (simp_all [encNw, encLk]; done)
          | (simp only [List.length_append, List.length_map, List.length_cons, List.length_nil, maxLen]; omega)
          | (simp only [maxLen] at *; omega)
          | omega)

      | cons x rest =>
        have hlt := cut_lt he
        have hx := cutD encLk he
        simp only [encLk] at hx
        have hw := wrap_len (n := pre.length) (m := (nw.cuts).length) (cut_lt' he) hcm
        replace he := Hd.mk he
        have hz1 := cut_lt' he.out
        have hz2 := outS_len iz (prR u v) (keepL u v pre)
        have hz3 := keep_len u v pre
        have hsn := keep_snoc u v pre x
        have hst := outS_snoc iz (prR u v) (keepL u v pre) x
        obtain ⟨⟨xs, dn⟩, hxs⟩ : ∃ r, r = outS iz (prR u v) (keepL u v pre) := ⟨_, rfl⟩
        rw [← hxs] at hI hst hz2
        dsimp only at hI hst hz2
        have hz8 : xs.length ≤ 2000 := by omega
        replace hxs := Hd.mk hxs
        cases hip : isP u v x <;> cases dn
        all_goals simp only [hip, if_true, if_false, Bool.false_eq_true] at hsn
        all_goals try simp only [if_true, if_false, Bool.false_eq_true] at hst
        all_goals first
          | (have hip' : isP u v x = true := hip; clear hst hip')
          | (rw [← hsn] at hst)
        all_goals try (
          rw [hpr] at hst
          rcases gt_cases x u v with ⟨hg, hg1⟩ | ⟨hg, hg1, hg2⟩ | ⟨hg, hg1, hg2⟩ | ⟨hg, hg1, hg2⟩ <;> simp only [hg, if_true, if_false, Bool.false_eq_true] at hst <;> rw [← hpr] at hst)
        all_goals try replace hg := Hd.mk hg
        all_goals replace hsn := Hd.mk hsn
        all_goals try replace hst := Hd.mk hst
        all_goals rcases hI with ⟨hp0, rfl⟩ | rfl
        all_goals try replace hp0 := Hd.mk hp0
        all_goals first
          | (refine use_nx (I := fun nx => ((outS iz (prR u v) (keepL u v (pre ++ [x]))).1 = [] ∧ nx = (DV.e0, [], (outS iz (prR u v) (keepL u v (pre ++ [x]))).2)) ∨ nx = (DV.ow 85, [(85, Blk.vec 49 2 ((outS iz (prR u v) (keepL u v (pre ++ [x]))).1.map encLk))], (outS iz (prR u v) (keepL u v (pre ++ [x]))).2)) (DV.e0, [], true) ?_ ?_; (focus ((refine .inl ⟨?_, ?_⟩ <;> rw [hsn.out, ← hxs.out]); exact hp0.out; done)); intro nx hnx hN; replace hN := Hd.mk hN)
          | (refine use_nx (I := fun nx => ((outS iz (prR u v) (keepL u v (pre ++ [x]))).1 = [] ∧ nx = (DV.e0, [], (outS iz (prR u v) (keepL u v (pre ++ [x]))).2)) ∨ nx = (DV.ow 85, [(85, Blk.vec 49 2 ((outS iz (prR u v) (keepL u v (pre ++ [x]))).1.map encLk))], (outS iz (prR u v) (keepL u v (pre ++ [x]))).2)) (DV.e0, [], false) ?_ ?_; (focus ((refine .inl ⟨?_, ?_⟩ <;> rw [hsn.out, ← hxs.out]); exact hp0.out; done)); intro nx hnx hN; replace hN := Hd.mk hN)
          | (refine use_nx (I := fun nx => ((outS iz (prR u v) (keepL u v (pre ++ [x]))).1 = [] ∧ nx = (DV.e0, [], (outS iz (prR u v) (keepL u v (pre ++ [x]))).2)) ∨ nx = (DV.ow 85, [(85, Blk.vec 49 2 ((outS iz (prR u v) (keepL u v (pre ++ [x]))).1.map encLk))], (outS iz (prR u v) (keepL u v (pre ++ [x]))).2)) (DV.ow 85, [(85, Blk.vec 49 2 (xs.map encLk))], true) ?_ ?_; (focus (refine .inr ?_; rw [hsn.out, ← hxs.out]; done)); intro nx hnx hN; replace hN := Hd.mk hN)
          | (refine use_nx (I := fun nx => ((outS iz (prR u v) (keepL u v (pre ++ [x]))).1 = [] ∧ nx = (DV.e0, [], (outS iz (prR u v) (keepL u v (pre ++ [x]))).2)) ∨ nx = (DV.ow 85, [(85, Blk.vec 49 2 ((outS iz (prR u v) (keepL u v (pre ++ [x]))).1.map encLk))], (outS iz (prR u v) (keepL u v (pre ++ [x]))).2)) (DV.ow 85, [(85, Blk.vec 49 2 (xs.map encLk))], false) ?_ ?_; (focus (refine .inr ?_; rw [hsn.out, ← hxs.out]; done)); intro nx hnx hN; replace hN := Hd.mk hN)
          | (refine use_nx (I := fun nx => ((outS iz (prR u v) (keepL u v (pre ++ [x]))).1 = [] ∧ nx = (DV.e0, [], (outS iz (prR u v) (keepL u v (pre ++ [x]))).2)) ∨ nx = (DV.ow 85, [(85, Blk.vec 49 2 ((outS iz (prR u v) (keepL u v (pre ++ [x]))).1.map encLk))], (outS iz (prR u v) (keepL u v (pre ++ [x]))).2)) (DV.ow 85, [(85, Blk.vec 49 2 ([encLk x]))], true) ?_ ?_; (focus (refine .inr ?_; rw [hst.out, hp0.out]; rfl; done)); intro nx hnx hN; replace hN := Hd.mk hN)
          | (refine use_nx (I := fun nx => ((outS iz (prR u v) (keepL u v (pre ++ [x]))).1 = [] ∧ nx = (DV.e0, [], (outS iz (prR u v) (keepL u v (pre ++ [x]))).2)) ∨ nx = (DV.ow 85, [(85, Blk.vec 49 2 ((outS iz (prR u v) (keepL u v (pre ++ [x]))).1.map encLk))], (outS iz (prR u v) (keepL u v (pre ++ [x]))).2)) (DV.ow 85, [(85, Blk.vec 49 2 (xs.map encLk ++ [encLk x]))], true) ?_ ?_; (focus (refine .inr ?_; rw [hst.out, List.map_append]; rfl; done)); intro nx hnx hN; replace hN := Hd.mk hN)
          | (refine use_nx (I := fun nx => ((outS iz (prR u v) (keepL u v (pre ++ [x]))).1 = [] ∧ nx = (DV.e0, [], (outS iz (prR u v) (keepL u v (pre ++ [x]))).2)) ∨ nx = (DV.ow 85, [(85, Blk.vec 49 2 ((outS iz (prR u v) (keepL u v (pre ++ [x]))).1.map encLk))], (outS iz (prR u v) (keepL u v (pre ++ [x]))).2)) (DV.ow 85, [(85, Blk.vec 49 2 ([encLk x]))], false) ?_ ?_; (focus (refine .inr ?_; rw [hst.out, hp0.out]; rfl; done)); intro nx hnx hN; replace hN := Hd.mk hN)
          | (refine use_nx (I := fun nx => ((outS iz (prR u v) (keepL u v (pre ++ [x]))).1 = [] ∧ nx = (DV.e0, [], (outS iz (prR u v) (keepL u v (pre ++ [x]))).2)) ∨ nx = (DV.ow 85, [(85, Blk.vec 49 2 ((outS iz (prR u v) (keepL u v (pre ++ [x]))).1.map encLk))], (outS iz (prR u v) (keepL u v (pre ++ [x]))).2)) (DV.ow 85, [(85, Blk.vec 49 2 (xs.map encLk ++ [encLk x]))], false) ?_ ?_; (focus (refine .inr ?_; rw [hst.out, List.map_append]; rfl; done)); intro nx hnx hN; replace hN := Hd.mk hN)
          | (refine use_nx (I := fun nx => ((outS iz (prR u v) (keepL u v (pre ++ [x]))).1 = [] ∧ nx = (DV.e0, [], (outS iz (prR u v) (keepL u v (pre ++ [x]))).2)) ∨ nx = (DV.ow 85, [(85, Blk.vec 49 2 ((outS iz (prR u v) (keepL u v (pre ++ [x]))).1.map encLk))], (outS iz (prR u v) (keepL u v (pre ++ [x]))).2)) (DV.ow 85, [(85, Blk.vec 49 2 ([encLk (u, v), encLk x]))], true) ?_ ?_; (focus (refine .inr ?_; rw [hst.out, hpr, hp0.out]; rfl; done)); intro nx hnx hN; replace hN := Hd.mk hN)
          | (refine use_nx (I := fun nx => ((outS iz (prR u v) (keepL u v (pre ++ [x]))).1 = [] ∧ nx = (DV.e0, [], (outS iz (prR u v) (keepL u v (pre ++ [x]))).2)) ∨ nx = (DV.ow 85, [(85, Blk.vec 49 2 ((outS iz (prR u v) (keepL u v (pre ++ [x]))).1.map encLk))], (outS iz (prR u v) (keepL u v (pre ++ [x]))).2)) (DV.ow 85, [(85, Blk.vec 49 2 (xs.map encLk ++ [encLk (u, v), encLk x]))], true) ?_ ?_; (focus (refine .inr ?_; rw [hst.out, hpr, List.map_append]; rfl; done)); intro nx hnx hN; replace hN := Hd.mk hN)
        all_goals clear hxs hsn hz1 hz2 hz3
        all_goals try clear hst
        all_goals try clear hp0
        all_goals try clear hg
        iterate 26 (all_goals (try (first
          | ((with_reducible refine back_in rest.length [24, 25, 26, 27, 28, 29, 30, 31, 32, 33, 34, 35, 36, 37, 38, 39, 40, 41, 42, 43, 44, 45, 46, 47, 48, 49, 50, 51, 52, 53, 54, 55, 56, 57, 58, 59, 60, 61, 62, 63, 64, 65, 66, 67, 68, 69, 70, 71, 72, 73, 74, 75, 76, 77, 78, 79, 80, 81, 82, 83, 84, 85] [76, 77, 84] (pre ++ [x], rest, nx) ?_ ⟨?_, ?_, ?_⟩ ?_)
             · simp
             · exact cut_snoc he.out
             · rfl
             · exact hN.out
             · first | (simp -implicitDefEqProofs only [SD, SF, SL, e_nf, reduceCtorEq, implies_true, ↓reduceIte, Nat.reduceEqDiff, Nat.reduceAdd, Nat.reduceMul, Nat.reduceSub, Nat.reduceLeDiff, Nat.reduceLT, Int.reduceLT, Int.reduceLE, Int.reduceEq, Int.reduceToNat, Int.reduceAdd, Int.reduceSub, Int.reduceNeg, Int.reduceBEq, Int.reduceBNe, Nat.reduceBEq, Int.cast_ofNat_Int, decide_true, decide_false, ne_eq, eq_self_iff_true, beq_eq_false_iff_ne, bne_iff_ne, List.replicate, encNw, encLk, less_irr, beq_self_eq_true] <;> simp <;> done) | (simp -implicitDefEqProofs only [SD, SF, SL, e_nf, reduceCtorEq, implies_true, ↓reduceIte, Nat.reduceEqDiff, Nat.reduceAdd, Nat.reduceMul, Nat.reduceSub, Nat.reduceLeDiff, Nat.reduceLT, Int.reduceLT, Int.reduceLE, Int.reduceEq, Int.reduceToNat, Int.reduceAdd, Int.reduceSub, Int.reduceNeg, Int.reduceBEq, Int.reduceBNe, Nat.reduceBEq, Int.cast_ofNat_Int, decide_true, decide_false, ne_eq, eq_self_iff_true, beq_eq_false_iff_ne, bne_iff_ne, List.replicate, encNw, encLk, less_irr, beq_self_eq_true, *] <;> simp_all <;> done))
          | ((with_reducible refine of_kSpec ?_)
             refine call_sub (ds' := [.agg (encLk x), .str u, .str v]) (spec32 x u v) rfl ?_ ?_
             · simp -implicitDefEqProofs only [SD, SF, SL, e_nf, reduceCtorEq, implies_true, ↓reduceIte, Nat.reduceEqDiff, Nat.reduceAdd, Nat.reduceMul, Nat.reduceSub, Nat.reduceLeDiff, Nat.reduceLT, Int.reduceLT, Int.reduceLE, Int.reduceEq, Int.reduceToNat, Int.reduceAdd, Int.reduceSub, Int.reduceNeg, Int.reduceBEq, Int.reduceBNe, Nat.reduceBEq, Int.cast_ofNat_Int, decide_true, decide_false, ne_eq, eq_self_iff_true, beq_eq_false_iff_ne, bne_iff_ne, List.replicate, encLk, *]
               done)
          | (with_reducible refine ite_in (fun _ => ?_) (fun _ => ?_))
          | (with_reducible refine ⟨fun _ => ?_, fun _ => ?_⟩)
          | (with_reducible refine And.intro ?_ ?_)
          | (with_reducible intro _)
          | (with_reducible exact is_in _)
          | (simp -implicitDefEqProofs only [SD, SF, SL, e_nf, reduceCtorEq, implies_true, ↓reduceIte, Nat.reduceEqDiff, Nat.reduceAdd, Nat.reduceMul, Nat.reduceSub, Nat.reduceLeDiff, Nat.reduceLT, Int.reduceLT, Int.reduceLE, Int.reduceEq, Int.reduceToNat, Int.reduceAdd, Int.reduceSub, Int.reduceNeg, Int.reduceBEq, Int.reduceBNe, Nat.reduceBEq, Int.cast_ofNat_Int, decide_true, decide_false, ne_eq, eq_self_iff_true, beq_eq_false_iff_ne, bne_iff_ne, List.replicate, encNw, encLk, less_irr, beq_self_eq_true, *]))))
        all_goals (first | (simp only [List.length_append, List.length_map, List.length_cons, List.length_nil, maxLen]; omega) | omega | (simp_all; done))
  · have hpr : prR u v = (v, u) := by simp [prR, hba]
    iterate 24 (all_goals (try (first
      | (with_reducible refine ite_in (fun _ => ?_) (fun _ => ?_))
      | (with_reducible refine ⟨fun _ => ?_, fun _ => ?_⟩)
      | (with_reducible refine And.intro ?_ ?_)
      | (with_reducible intro _)
      | (with_reducible exact is_in _)
      | (simp -implicitDefEqProofs only [SD, SF, SL, e_nf, reduceCtorEq, implies_true, ↓reduceIte, Nat.reduceEqDiff, Nat.reduceAdd, Nat.reduceMul, Nat.reduceSub, Nat.reduceLeDiff, Nat.reduceLT, Int.reduceLT, Int.reduceLE, Int.reduceEq, Int.reduceToNat, Int.reduceAdd, Int.reduceSub, Int.reduceNeg, Int.reduceBEq, Int.reduceBNe, Nat.reduceBEq, Int.cast_ofNat_Int, decide_true, decide_false, ne_eq, eq_self_iff_true, beq_eq_false_iff_ne, bne_iff_ne, List.replicate, encNw, encLk, less_irr, beq_self_eq_true, *]))))
    refine loop_r (X := List Lk × List Lk × (DV × List (Nat × Blk) × Bool)) (fun n x => nw.cuts = x.1 ++ x.2.1 ∧ n = x.2.1.length ∧ (((outS iz (prR u v) (keepL u v x.1)).1 = [] ∧ x.2.2 = (DV.e0, [], (outS iz (prR u v) (keepL u v x.1)).2)) ∨ x.2.2 = (DV.ow 85, [(85, Blk.vec 49 2 ((outS iz (prR u v) (keepL u v x.1)).1.map encLk))], (outS iz (prR u v) (keepL u v x.1)).2))) (fun x => [(12, .int .i64 x.1.length), (9, x.2.2.1), (11, .bool x.2.2.2.2)]) (fun x => x.2.2.2.1) [24, 25, 26, 27, 28, 29, 30, 31, 32, 33, 34, 35, 36, 37, 38, 39, 40, 41, 42, 43, 44, 45, 46, 47, 48, 49, 50, 51, 52, 53, 54, 55, 56, 57, 58, 59, 60, 61, 62, 63, 64, 65, 66, 67, 68, 69, 70, 71, 72, 73, 74, 75, 76, 77, 78, 79, 80, 81, 82, 83, 84, 85] [76, 77, 84, 85] [76, 77, 84] (nw.cuts).length ([], nw.cuts, (DV.e0, [], !iz)) ⟨rfl, rfl, by cases iz <;> exact .inl ⟨rfl, rfl⟩⟩ ?_ ?_
    · simp -implicitDefEqProofs only [SD, SF, SL, e_nf, reduceCtorEq, implies_true, ↓reduceIte, Nat.reduceEqDiff, Nat.reduceAdd, Nat.reduceMul, Nat.reduceSub, Nat.reduceLeDiff, Nat.reduceLT, Int.reduceLT, Int.reduceLE, Int.reduceEq, Int.reduceToNat, Int.reduceAdd, Int.reduceSub, Int.reduceNeg, Int.reduceBEq, Int.reduceBNe, Nat.reduceBEq, Int.cast_ofNat_Int, decide_true, decide_false, ne_eq, eq_self_iff_true, beq_eq_false_iff_ne, bne_iff_ne, List.replicate, encNw, encLk, less_irr, beq_self_eq_true] <;> simp
    · rintro n ⟨pre, rest, a⟩ ⟨he, rfl, hI⟩
      dsimp only at he hI
      cases rest with
      | nil =>
        obtain rfl : nw.cuts = pre := by simpa using he
        clear he
        have hlt : ¬ (((nw.cuts).length : Int) < ((nw.cuts).length : Int)) := Int.lt_irrefl _
        have hq := out_cut nw u v iz
        obtain ⟨⟨xs, dn⟩, hxs⟩ : ∃ r, r = outS iz (prR u v) (keepL u v nw.cuts) := ⟨_, rfl⟩
        have hz2 := outS_len iz (prR u v) (keepL u v nw.cuts)
        have hz3 := keep_len u v nw.cuts
        rw [← hxs] at hI hq hz2
        dsimp only at hI hq hz2
        have hz8 : xs.length ≤ 2000 := by omega
        clear hxs
        cases dn
        all_goals simp only [if_true, if_false, Bool.false_eq_true] at hq
        all_goals rcases hI with ⟨rfl, rfl⟩ | rfl
        all_goals try rw [hpr] at hq
        iterate 26 (all_goals (try (first
          | (with_reducible refine ite_in (fun _ => ?_) (fun _ => ?_))
          | (with_reducible refine ⟨fun _ => ?_, fun _ => ?_⟩)
          | (with_reducible refine And.intro ?_ ?_)
          | (with_reducible intro _)
          | (with_reducible exact is_in _)
          | (simp -implicitDefEqProofs only [SD, SF, SL, e_nf, reduceCtorEq, implies_true, ↓reduceIte, Nat.reduceEqDiff, Nat.reduceAdd, Nat.reduceMul, Nat.reduceSub, Nat.reduceLeDiff, Nat.reduceLT, Int.reduceLT, Int.reduceLE, Int.reduceEq, Int.reduceToNat, Int.reduceAdd, Int.reduceSub, Int.reduceNeg, Int.reduceBEq, Int.reduceBNe, Nat.reduceBEq, Int.cast_ofNat_Int, decide_true, decide_false, ne_eq, eq_self_iff_true, beq_eq_false_iff_ne, bne_iff_ne, List.replicate, encNw, encLk, less_irr, beq_self_eq_true, *]))))
        all_goals (first
          | (simp only [hq]; done)
          | (simp only [hq]; rfl)
          | (simp [hq, encLk]; done)
          | (simp_all [encNw, encLk]; done)
          | (simp only [List.length_append, List.length_map, List.length_cons, List.length_nil, maxLen]; omega)
          | (simp only [maxLen] at *; omega)
          | omega)

      | cons x rest =>
        have hlt := cut_lt he
        have hx := cutD encLk he
        simp only [encLk] at hx
        have hw := wrap_len (n := pre.length) (m := (nw.cuts).length) (cut_lt' he) hcm
        replace he := Hd.mk he
        have hz1 := cut_lt' he.out
        have hz2 := outS_len iz (prR u v) (keepL u v pre)
        have hz3 := keep_len u v pre
        have hsn := keep_snoc u v pre x
        have hst := outS_snoc iz (prR u v) (keepL u v pre) x
        obtain ⟨⟨xs, dn⟩, hxs⟩ : ∃ r, r = outS iz (prR u v) (keepL u v pre) := ⟨_, rfl⟩
        rw [← hxs] at hI hst hz2
        dsimp only at hI hst hz2
        have hz8 : xs.length ≤ 2000 := by omega
        replace hxs := Hd.mk hxs
        cases hip : isP u v x <;> cases dn
        all_goals simp only [hip, if_true, if_false, Bool.false_eq_true] at hsn
        all_goals try simp only [if_true, if_false, Bool.false_eq_true] at hst
        all_goals first
          | (have hip' : isP u v x = true := hip; clear hst hip')
          | (rw [← hsn] at hst)
        all_goals try (
          rw [hpr] at hst
          rcases gt_cases x v u with ⟨hg, hg1⟩ | ⟨hg, hg1, hg2⟩ | ⟨hg, hg1, hg2⟩ | ⟨hg, hg1, hg2⟩ <;> simp only [hg, if_true, if_false, Bool.false_eq_true] at hst <;> rw [← hpr] at hst)
        all_goals try replace hg := Hd.mk hg
        all_goals replace hsn := Hd.mk hsn
        all_goals try replace hst := Hd.mk hst
        all_goals rcases hI with ⟨hp0, rfl⟩ | rfl
        all_goals try replace hp0 := Hd.mk hp0
        all_goals first
          | (refine use_nx (I := fun nx => ((outS iz (prR u v) (keepL u v (pre ++ [x]))).1 = [] ∧ nx = (DV.e0, [], (outS iz (prR u v) (keepL u v (pre ++ [x]))).2)) ∨ nx = (DV.ow 85, [(85, Blk.vec 49 2 ((outS iz (prR u v) (keepL u v (pre ++ [x]))).1.map encLk))], (outS iz (prR u v) (keepL u v (pre ++ [x]))).2)) (DV.e0, [], true) ?_ ?_; (focus ((refine .inl ⟨?_, ?_⟩ <;> rw [hsn.out, ← hxs.out]); exact hp0.out; done)); intro nx hnx hN; replace hN := Hd.mk hN)
          | (refine use_nx (I := fun nx => ((outS iz (prR u v) (keepL u v (pre ++ [x]))).1 = [] ∧ nx = (DV.e0, [], (outS iz (prR u v) (keepL u v (pre ++ [x]))).2)) ∨ nx = (DV.ow 85, [(85, Blk.vec 49 2 ((outS iz (prR u v) (keepL u v (pre ++ [x]))).1.map encLk))], (outS iz (prR u v) (keepL u v (pre ++ [x]))).2)) (DV.e0, [], false) ?_ ?_; (focus ((refine .inl ⟨?_, ?_⟩ <;> rw [hsn.out, ← hxs.out]); exact hp0.out; done)); intro nx hnx hN; replace hN := Hd.mk hN)
          | (refine use_nx (I := fun nx => ((outS iz (prR u v) (keepL u v (pre ++ [x]))).1 = [] ∧ nx = (DV.e0, [], (outS iz (prR u v) (keepL u v (pre ++ [x]))).2)) ∨ nx = (DV.ow 85, [(85, Blk.vec 49 2 ((outS iz (prR u v) (keepL u v (pre ++ [x]))).1.map encLk))], (outS iz (prR u v) (keepL u v (pre ++ [x]))).2)) (DV.ow 85, [(85, Blk.vec 49 2 (xs.map encLk))], true) ?_ ?_; (focus (refine .inr ?_; rw [hsn.out, ← hxs.out]; done)); intro nx hnx hN; replace hN := Hd.mk hN)
          | (refine use_nx (I := fun nx => ((outS iz (prR u v) (keepL u v (pre ++ [x]))).1 = [] ∧ nx = (DV.e0, [], (outS iz (prR u v) (keepL u v (pre ++ [x]))).2)) ∨ nx = (DV.ow 85, [(85, Blk.vec 49 2 ((outS iz (prR u v) (keepL u v (pre ++ [x]))).1.map encLk))], (outS iz (prR u v) (keepL u v (pre ++ [x]))).2)) (DV.ow 85, [(85, Blk.vec 49 2 (xs.map encLk))], false) ?_ ?_; (focus (refine .inr ?_; rw [hsn.out, ← hxs.out]; done)); intro nx hnx hN; replace hN := Hd.mk hN)
          | (refine use_nx (I := fun nx => ((outS iz (prR u v) (keepL u v (pre ++ [x]))).1 = [] ∧ nx = (DV.e0, [], (outS iz (prR u v) (keepL u v (pre ++ [x]))).2)) ∨ nx = (DV.ow 85, [(85, Blk.vec 49 2 ((outS iz (prR u v) (keepL u v (pre ++ [x]))).1.map encLk))], (outS iz (prR u v) (keepL u v (pre ++ [x]))).2)) (DV.ow 85, [(85, Blk.vec 49 2 ([encLk x]))], true) ?_ ?_; (focus (refine .inr ?_; rw [hst.out, hp0.out]; rfl; done)); intro nx hnx hN; replace hN := Hd.mk hN)
          | (refine use_nx (I := fun nx => ((outS iz (prR u v) (keepL u v (pre ++ [x]))).1 = [] ∧ nx = (DV.e0, [], (outS iz (prR u v) (keepL u v (pre ++ [x]))).2)) ∨ nx = (DV.ow 85, [(85, Blk.vec 49 2 ((outS iz (prR u v) (keepL u v (pre ++ [x]))).1.map encLk))], (outS iz (prR u v) (keepL u v (pre ++ [x]))).2)) (DV.ow 85, [(85, Blk.vec 49 2 (xs.map encLk ++ [encLk x]))], true) ?_ ?_; (focus (refine .inr ?_; rw [hst.out, List.map_append]; rfl; done)); intro nx hnx hN; replace hN := Hd.mk hN)
          | (refine use_nx (I := fun nx => ((outS iz (prR u v) (keepL u v (pre ++ [x]))).1 = [] ∧ nx = (DV.e0, [], (outS iz (prR u v) (keepL u v (pre ++ [x]))).2)) ∨ nx = (DV.ow 85, [(85, Blk.vec 49 2 ((outS iz (prR u v) (keepL u v (pre ++ [x]))).1.map encLk))], (outS iz (prR u v) (keepL u v (pre ++ [x]))).2)) (DV.ow 85, [(85, Blk.vec 49 2 ([encLk x]))], false) ?_ ?_; (focus (refine .inr ?_; rw [hst.out, hp0.out]; rfl; done)); intro nx hnx hN; replace hN := Hd.mk hN)
          | (refine use_nx (I := fun nx => ((outS iz (prR u v) (keepL u v (pre ++ [x]))).1 = [] ∧ nx = (DV.e0, [], (outS iz (prR u v) (keepL u v (pre ++ [x]))).2)) ∨ nx = (DV.ow 85, [(85, Blk.vec 49 2 ((outS iz (prR u v) (keepL u v (pre ++ [x]))).1.map encLk))], (outS iz (prR u v) (keepL u v (pre ++ [x]))).2)) (DV.ow 85, [(85, Blk.vec 49 2 (xs.map encLk ++ [encLk x]))], false) ?_ ?_; (focus (refine .inr ?_; rw [hst.out, List.map_append]; rfl; done)); intro nx hnx hN; replace hN := Hd.mk hN)
          | (refine use_nx (I := fun nx => ((outS iz (prR u v) (keepL u v (pre ++ [x]))).1 = [] ∧ nx = (DV.e0, [], (outS iz (prR u v) (keepL u v (pre ++ [x]))).2)) ∨ nx = (DV.ow 85, [(85, Blk.vec 49 2 ((outS iz (prR u v) (keepL u v (pre ++ [x]))).1.map encLk))], (outS iz (prR u v) (keepL u v (pre ++ [x]))).2)) (DV.ow 85, [(85, Blk.vec 49 2 ([encLk (v, u), encLk x]))], true) ?_ ?_; (focus (refine .inr ?_; rw [hst.out, hpr, hp0.out]; rfl; done)); intro nx hnx hN; replace hN := Hd.mk hN)
          | (refine use_nx (I := fun nx => ((outS iz (prR u v) (keepL u v (pre ++ [x]))).1 = [] ∧ nx = (DV.e0, [], (outS iz (prR u v) (keepL u v (pre ++ [x]))).2)) ∨ nx = (DV.ow 85, [(85, Blk.vec 49 2 ((outS iz (prR u v) (keepL u v (pre ++ [x]))).1.map encLk))], (outS iz (prR u v) (keepL u v (pre ++ [x]))).2)) (DV.ow 85, [(85, Blk.vec 49 2 (xs.map encLk ++ [encLk (v, u), encLk x]))], true) ?_ ?_; (focus (refine .inr ?_; rw [hst.out, hpr, List.map_append]; rfl; done)); intro nx hnx hN; replace hN := Hd.mk hN)
        all_goals clear hxs hsn hz1 hz2 hz3
        all_goals try clear hst
        all_goals try clear hp0
        all_goals try clear hg
        iterate 26 (all_goals (try (first
          | ((with_reducible refine back_in rest.length [24, 25, 26, 27, 28, 29, 30, 31, 32, 33, 34, 35, 36, 37, 38, 39, 40, 41, 42, 43, 44, 45, 46, 47, 48, 49, 50, 51, 52, 53, 54, 55, 56, 57, 58, 59, 60, 61, 62, 63, 64, 65, 66, 67, 68, 69, 70, 71, 72, 73, 74, 75, 76, 77, 78, 79, 80, 81, 82, 83, 84, 85] [76, 77, 84] (pre ++ [x], rest, nx) ?_ ⟨?_, ?_, ?_⟩ ?_)
             · simp
             · exact cut_snoc he.out
             · rfl
             · exact hN.out
             · first | (simp -implicitDefEqProofs only [SD, SF, SL, e_nf, reduceCtorEq, implies_true, ↓reduceIte, Nat.reduceEqDiff, Nat.reduceAdd, Nat.reduceMul, Nat.reduceSub, Nat.reduceLeDiff, Nat.reduceLT, Int.reduceLT, Int.reduceLE, Int.reduceEq, Int.reduceToNat, Int.reduceAdd, Int.reduceSub, Int.reduceNeg, Int.reduceBEq, Int.reduceBNe, Nat.reduceBEq, Int.cast_ofNat_Int, decide_true, decide_false, ne_eq, eq_self_iff_true, beq_eq_false_iff_ne, bne_iff_ne, List.replicate, encNw, encLk, less_irr, beq_self_eq_true] <;> simp <;> done) | (simp -implicitDefEqProofs only [SD, SF, SL, e_nf, reduceCtorEq, implies_true, ↓reduceIte, Nat.reduceEqDiff, Nat.reduceAdd, Nat.reduceMul, Nat.reduceSub, Nat.reduceLeDiff, Nat.reduceLT, Int.reduceLT, Int.reduceLE, Int.reduceEq, Int.reduceToNat, Int.reduceAdd, Int.reduceSub, Int.reduceNeg, Int.reduceBEq, Int.reduceBNe, Nat.reduceBEq, Int.cast_ofNat_Int, decide_true, decide_false, ne_eq, eq_self_iff_true, beq_eq_false_iff_ne, bne_iff_ne, List.replicate, encNw, encLk, less_irr, beq_self_eq_true, *] <;> simp_all <;> done))
          | ((with_reducible refine of_kSpec ?_)
             refine call_sub (ds' := [.agg (encLk x), .str u, .str v]) (spec32 x u v) rfl ?_ ?_
             · simp -implicitDefEqProofs only [SD, SF, SL, e_nf, reduceCtorEq, implies_true, ↓reduceIte, Nat.reduceEqDiff, Nat.reduceAdd, Nat.reduceMul, Nat.reduceSub, Nat.reduceLeDiff, Nat.reduceLT, Int.reduceLT, Int.reduceLE, Int.reduceEq, Int.reduceToNat, Int.reduceAdd, Int.reduceSub, Int.reduceNeg, Int.reduceBEq, Int.reduceBNe, Nat.reduceBEq, Int.cast_ofNat_Int, decide_true, decide_false, ne_eq, eq_self_iff_true, beq_eq_false_iff_ne, bne_iff_ne, List.replicate, encLk, *]
               done)
          | (with_reducible refine ite_in (fun _ => ?_) (fun _ => ?_))
          | (with_reducible refine ⟨fun _ => ?_, fun _ => ?_⟩)
          | (with_reducible refine And.intro ?_ ?_)
          | (with_reducible intro _)
          | (with_reducible exact is_in _)
          | (simp -implicitDefEqProofs only [SD, SF, SL, e_nf, reduceCtorEq, implies_true, ↓reduceIte, Nat.reduceEqDiff, Nat.reduceAdd, Nat.reduceMul, Nat.reduceSub, Nat.reduceLeDiff, Nat.reduceLT, Int.reduceLT, Int.reduceLE, Int.reduceEq, Int.reduceToNat, Int.reduceAdd, Int.reduceSub, Int.reduceNeg, Int.reduceBEq, Int.reduceBNe, Nat.reduceBEq, Int.cast_ofNat_Int, decide_true, decide_false, ne_eq, eq_self_iff_true, beq_eq_false_iff_ne, bne_iff_ne, List.replicate, encNw, encLk, less_irr, beq_self_eq_true, *]))))
        all_goals (first | (simp only [List.length_append, List.length_map, List.length_cons, List.length_nil, maxLen]; omega) | omega | (simp_all; done))

end Go.Proofs.Ytklbfafdioeehaa.E
