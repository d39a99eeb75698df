/-
  NtJ: walks of functions of the program at data level.
-/
import Derived.Test.YtklbfafdioeehaaProg
import Derived.Test.YtklbfafdioeehaaEngZ
import Derived.Test.YtklbfafdioeehaaNtI
import Derived.KernelRfl
set_option linter.unusedVariables false
set_option linter.unusedSimpArgs false
namespace Go.Proofs.Ytklbfafdioeehaa.E
open Go
set_option maxHeartbeats 4000000
set_option maxRecDepth 100000
set_option linter.unusedSimpArgs false
set_option linter.unusedVariables false
attribute [local congr] c_wp c_ops c_op c_opS c_run c_runS c_dt c_seq c_blk c_loop c_S c_put c_bind c_mv c_pick c_nt c_ng c_bin c_binI c_binS c_beq c_B c_eqa c_hd c_cells c_blkK c_box c_vec c_mp c_nck c_mks c_appn c_mkm c_mput c_mlk c_mrm c_take c_ld c_ldF c_cellsK c_st c_fld c_fldv c_ix c_ixp c_ixv c_ixs c_sub c_subs c_len c_lens c_src c_dst c_ow c_app c_ext c_mm c_conv c_str c_isn c_fill c_rows c_boxo c_frz c_frzO c_frzA c_frzV c_spec c_specO c_opsP c_opP c_runP c_specP c_Z c_qretP c_fz c_fn c_gv c_cond c_res1 c_resL c_ret c_qret c_ite c_unr c_nx c_bk c_cut c_is
attribute [local irreducible] dwp

def keepL (u v : List UInt8) (l : List Lk) : List Lk := l.filter fun x => !isP u v x
def insB (l : List Lk) (x : Lk) : List Lk := l.takeWhile (fun y => !gtL y x) ++ x :: l.dropWhile (fun y => !gtL y x)
def cutR (nw : Ntw) (u v : List UInt8) (iz : Bool) : Ntw := ⟨nw.packets, if iz = true then insB (keepL u v nw.cuts) (prR u v) else keepL u v nw.cuts⟩
theorem keep_snoc (u v : List UInt8) (l : List Lk) (x : Lk) : keepL u v (l ++ [x]) = if isP u v x = true then keepL u v l else keepL u v l ++ [x] := by
  unfold keepL
  rw [List.filter_append]
  cases h : isP u v x <;> simp [h]
theorem keep_len (u v : List UInt8) (l : List Lk) : (keepL u v l).length ≤ l.length := List.length_filter_le _ _
theorem klk_erase (l : List Lk) (u v : List UInt8) (x : Lk) (hx : x ∈ l) : mpLk (.ag [.s, .s]) (kents ((keysL l).erase (prR u v))) (.agg [.str (prR x.1 x.2).1, .str (prR x.1 x.2).2]) = if isP u v x = true then none else some (.bool true) := by
  have h := klk (prR x.1 x.2) ((keysL l).erase (prR u v))
  refine h.trans ?_
  have hm : prR x.1 x.2 ∈ keysL l := by
    rw [mem_keysL, List.any_eq_true]
    exact ⟨x, hx, by simp [isP]⟩
  have he : prR x.1 x.2 ∈ (keysL l).erase (prR u v) ↔ ¬ isP u v x = true := by
    rw [(keysL_nodup l).mem_erase_iff]
    simp only [hm, and_true, ne_eq, pr_eq, isP, decide_eq_true_eq]
  by_cases hp : isP u v x = true
  · rw [if_neg (fun h => he.1 h hp), if_pos hp]
  · rw [if_pos (he.2 hp), if_neg hp]
theorem insB_end {l : List Lk} {x : Lk} (h : l.all (fun y => !gtL y x) = true) : insB l x = l ++ [x] ∧ (insB l x).map encLk = (l.map encLk).take l.length ++ encLk x :: (l.map encLk).drop l.length := by
  have h1 : ∀ l : List Lk, l.all (fun y => !gtL y x) = true → l.takeWhile (fun y => !gtL y x) = l ∧ l.dropWhile (fun y => !gtL y x) = [] := by
    intro l
    induction l with
    | nil => simp
    | cons y l ih =>
      intro h
      simp only [List.all_cons, Bool.and_eq_true] at h
      obtain ⟨h1, h2⟩ := ih h.2
      rw [List.takeWhile_cons, List.dropWhile_cons, h.1, h1, h2]
      exact ⟨rfl, rfl⟩
  have h2 : insB l x = l ++ [x] := by rw [insB, (h1 l h).1, (h1 l h).2]
  refine ⟨h2, ?_⟩
  rw [h2, List.map_append, List.take_of_length_le (by simp), List.drop_eq_nil_of_le (by simp)]
  rfl
theorem insB_mid {l pre : List Lk} {y : Lk} {rest : List Lk} {x : Lk} (he : l = pre ++ y :: rest) (h : pre.all (fun y => !gtL y x) = true) (hy : gtL y x = true) : insB l x = pre ++ x :: y :: rest ∧ (insB l x).map encLk = (l.map encLk).take pre.length ++ encLk x :: (l.map encLk).drop pre.length := by
  have h1 : ∀ pre : List Lk, pre.all (fun y => !gtL y x) = true → (pre ++ y :: rest).takeWhile (fun y => !gtL y x) = pre ∧ (pre ++ y :: rest).dropWhile (fun y => !gtL y x) = y :: rest := by
    intro pre
    induction pre with
    | nil => intro _; rw [List.nil_append, List.takeWhile_cons, List.dropWhile_cons, hy]; exact ⟨rfl, rfl⟩
    | cons z l ih =>
      intro h
      simp only [List.all_cons, Bool.and_eq_true] at h
      obtain ⟨h1, h2⟩ := ih h.2
      rw [List.cons_append, List.takeWhile_cons, List.dropWhile_cons, h.1, h1, h2]
      exact ⟨rfl, rfl⟩
  subst he
  have h2 : insB (pre ++ y :: rest) x = pre ++ x :: y :: rest := by rw [insB, (h1 pre h).1, (h1 pre h).2]
  refine ⟨h2, ?_⟩
  rw [h2]
  simp only [List.map_append, List.map_cons]
  rw [List.take_left' (by simp), List.drop_left' (by simp)]
def ac15 : AC := (.seq (.ops [⟨(some 4), none, (.box (.t 0))⟩, ⟨(some 8), none, (.alloc [.e0, .e0])⟩]) (.seq (.ops [⟨(some 15), none, (.mv (.t 1))⟩, ⟨(some 16), none, (.mv (.t 2))⟩, ⟨(some 17), none, (.call false 28 [(.t 15), (.t 16)])⟩, ⟨(some 9), none, (.alloc [(.str []), (.str [])])⟩, ⟨none, none, (.sto 2 (.t 9) (.t 17))⟩]) (.seq (.ops [⟨(some 18), none, (.ld true 2 (.t 4))⟩, ⟨(some 19), none, (.call false 29 [(.t 18)])⟩, ⟨(some 10), none, (.mv (.t 19))⟩]) (.seq (.ops [⟨(some 20), none, (.mv (.t 10))⟩, ⟨(some 21), none, (.ld true 2 (.t 9))⟩, ⟨none, none, (.mrm (.ag [.s, .s]) (.t 20) (.t 21))⟩]) (.seq (.ops [⟨(some 22), none, (.fld 1 (.t 4))⟩, ⟨(some 23), none, (.ld false 1 (.t 22))⟩, ⟨(some 24), none, (.len (.t 23))⟩, ⟨(some 25), none, (.bin .add (.t 24) (.c (.int .i64 1)))⟩, ⟨(some 26), none, (.mks 49 2 32 (.c (.int .i64 0)) (.t 25))⟩, ⟨(some 11), none, (.mv (.t 26))⟩]) (.seq (.seq (.ops [⟨(some 27), none, (.fld 1 (.t 4))⟩, ⟨(some 28), none, (.ld false 1 (.t 27))⟩, ⟨(some 29), none, (.len (.t 28))⟩, ⟨(some 30), none, (.mv (.c (.int .i64 0)))⟩]) (.block 0 (.loop (.seq (.ops [⟨(some 31), none, (.bin .lss (.t 30) (.t 29))⟩]) (.seq (.cond (.t 31) .skip (.exit 0)) (.seq (.block 1 (.seq (.ops [⟨(some 32), none, (.ix 2 (.t 28) (.t 30))⟩, ⟨(some 33), none, (.ld true 2 (.t 32))⟩, ⟨(some 13), none, (.alloc [(.str []), (.str [])])⟩, ⟨none, none, (.sto 2 (.t 13) (.t 33))⟩]) (.seq (.ops [⟨(some 34), none, (.mv (.t 10))⟩, ⟨(some 35), none, (.ixp 2 1 (.t 13) (.c (.int .i64 0)))⟩, ⟨(some 36), none, (.ld false 1 (.t 35))⟩, ⟨(some 37), none, (.ixp 2 1 (.t 13) (.c (.int .i64 1)))⟩, ⟨(some 38), none, (.ld false 1 (.t 37))⟩, ⟨(some 39), none, (.call false 28 [(.t 36), (.t 38)])⟩, ⟨(some 40), none, (.mlk (.ag [.s, .s]) (.bool false) (.t 34) (.t 39))⟩]) (.cond (.t 40) (.ops [⟨(some 41), none, (.mv (.t 11))⟩, ⟨(some 42), none, (.ld true 2 (.t 13))⟩, ⟨(some 43), none, (.buildSl 49 2 1 [(.str []), (.str [])] [(0, (.t 42))])⟩, ⟨(some 44), none, (.app 49 2 32 (.t 41) (.t 43))⟩, ⟨(some 11), none, (.mv (.t 44))⟩]) .skip)))) (.ops [⟨(some 45), none, (.bin .add (.t 30) (.c (.int .i64 1)))⟩, ⟨(some 30), none, (.mv (.t 45))⟩]))))))) (.seq (.seq (.ops [⟨(some 46), none, (.mv (.t 3))⟩]) (.cond (.t 46) (.seq (.ops [⟨(some 14), none, (.mv (.c (.int .i64 0)))⟩]) (.seq (.block 2 (.loop (.seq (.seq (.draw (.q true ⟨(some 47), none, (.mv (.t 14))⟩ (.q false ⟨(some 48), none, (.mv (.t 11))⟩ (.op ⟨(some 49), none, (.len (.t 48))⟩ (.q false ⟨(some 50), none, (.bin .lss (.t 47) (.t 49))⟩ (.q false ⟨(some 51), none, (.mv (.t 50))⟩ (.q false ⟨(some 52), (some (51, true)), (.mv (.t 11))⟩ (.q false ⟨(some 53), (some (51, true)), (.mv (.t 14))⟩ (.q false ⟨(some 54), (some (51, true)), (.ix 2 (.t 52) (.t 53))⟩ (.q false ⟨(some 55), (some (51, true)), (.ld true 2 (.t 54))⟩ (.q false ⟨(some 56), (some (51, true)), (.ld true 2 (.t 9))⟩ (.op ⟨(some 57), (some (51, true)), (.call false 30 [(.t 55), (.t 56)])⟩ (.q false ⟨(some 58), (some (51, true)), (.nt (.t 57))⟩ (.q false ⟨(some 59), none, (.pick (.t 51) (.t 58) (.c (.bool false)))⟩ .nil)))))))))))))) (.cond (.t 59) .skip (.exit 2))) (.block 3 (.ops [⟨(some 60), none, (.mv (.t 14))⟩, ⟨(some 61), none, (.bin .add (.t 60) (.c (.int .i64 1)))⟩, ⟨(some 14), none, (.mv (.t 61))⟩]))))) (.ops [⟨(some 62), none, (.mv (.t 11))⟩, ⟨(some 63), none, (.mv (.t 14))⟩, ⟨(some 64), none, (.ld true 2 (.t 9))⟩, ⟨(some 65), none, (.buildSl 49 2 1 [(.str []), (.str [])] [(0, (.t 64))])⟩, ⟨(some 66), none, (.call true 31 [(.t 62), (.t 63), (.t 65)])⟩, ⟨(some 11), none, (.mv (.t 66))⟩]))) .skip)) (.seq (.ops [⟨(some 67), none, (.mv (.t 11))⟩, ⟨(some 68), none, (.fld 1 (.t 4))⟩, ⟨none, none, (.sto 1 (.t 68) (.t 67))⟩]) (.seq (.ops [⟨(some 69), none, (.ld true 2 (.t 4))⟩, ⟨none, none, (.sto 2 (.t 8) (.t 69))⟩]) .ret)))))))))
theorem tr15 : Try.f15.body.bind (trCode Try.prog) = some (strip ac15) := by kernel_rfl
theorem spec15 (nw : Ntw) (u v : List UInt8) (iz : Bool) (hc : nw.cuts.length ≤ 1000) : Spec Try.prog 15 [.fz (.agg (encNw nw)), .fz (.str u), .fz (.str v), .fz (.bool iz)] (.fz (.agg (encNw (cutR nw u v iz)))) := by
  refine spec_at (n := 66) (ars := [(.c true 2 8)]) (ac := ac15) Try.func15 (by kernel_rfl) (by kernel_rfl) tr15 (by kernel_rfl) ?_
  unfold ac15
  have hcm : nw.cuts.length ≤ maxLen := by simp only [maxLen]; omega
  have hw1 : IntKind.i64.wrap ((nw.cuts.length : Int) + 1) = (nw.cuts.length : Int) + 1 := wrap_in (by omega) (by omega)
  have hw2 : (0 : Int) ≤ (nw.cuts.length : Int) + 1 := by omega
  have hw3 : (nw.cuts.length : Int) + 1 ≤ 4294967296 := by omega
  have hw4 : (32 : Int) * ((nw.cuts.length : Int) + 1) ≤ 281474976710656 := by omega
  iterate 24 (all_goals (try (first
    | ((with_reducible refine of_kSpec ?_); refine call_fz (spec28 _ _) rfl ?_)
    | ((with_reducible refine of_kSpec ?_)
       refine call_owm (ds' := [.agg (encNw nw)]) (spec29 nw) rfl ?_ ?_
       · simp -implicitDefEqProofs only [SD, SF, SL, e_nf, reduceCtorEq, implies_true, ↓reduceIte, Nat.reduceEqDiff, Nat.reduceAdd, Nat.reduceMul, Nat.reduceSub, Nat.reduceLeDiff, Nat.reduceLT, Int.reduceLT, Int.reduceLE, Int.reduceEq, Int.reduceToNat, Int.reduceAdd, Int.reduceSub, Int.reduceNeg, Int.reduceBEq, Int.reduceBNe, Nat.reduceBEq, Int.cast_ofNat_Int, decide_true, decide_false, ne_eq, eq_self_iff_true, beq_eq_false_iff_ne, bne_iff_ne, List.replicate, encNw, *]
         done)
    | (with_reducible refine ite_in (fun _ => ?_) (fun _ => ?_))
    | (with_reducible refine ⟨fun _ => ?_, fun _ => ?_⟩)
    | (with_reducible refine And.intro ?_ ?_)
    | (with_reducible intro _)
    | (with_reducible exact is_in _)
    | (simp -implicitDefEqProofs only [SD, SF, SL, e_nf, reduceCtorEq, implies_true, ↓reduceIte, Nat.reduceEqDiff, Nat.reduceAdd, Nat.reduceMul, Nat.reduceSub, Nat.reduceLeDiff, Nat.reduceLT, Int.reduceLT, Int.reduceLE, Int.reduceEq, Int.reduceToNat, Int.reduceAdd, Int.reduceSub, Int.reduceNeg, Int.reduceBEq, Int.reduceBNe, Nat.reduceBEq, Int.cast_ofNat_Int, decide_true, decide_false, ne_eq, eq_self_iff_true, beq_eq_false_iff_ne, bne_iff_ne, List.replicate, encNw, encLk, krem', Option.getD_some, Option.getD_none, *]))))
  refine loop_r (X := List Lk × List Lk × (DV × List (Nat × Blk))) (fun n x => nw.cuts = x.1 ++ x.2.1 ∧ n = x.2.1.length ∧ (((keepL u v x.1) = [] ∧ x.2.2 = (DV.ow 26, [(26, Blk.vec 49 2 [])])) ∨ x.2.2 = (DV.ow 44, [(44, Blk.vec 49 2 ((keepL u v x.1).map encLk))]))) (fun x => [(30, .int .i64 x.1.length), (11, x.2.2.1)]) (fun x => x.2.2.2) [13, 31, 32, 33, 34, 35, 36, 37, 38, 39, 40, 41, 42, 43, 44, 45] [13, 43, 44, 26] [13, 43] (nw.cuts).length ([], nw.cuts, (DV.ow 26, [(26, Blk.vec 49 2 [])])) ⟨rfl, rfl, by exact .inl ⟨rfl, rfl⟩⟩ ?_ ?_
  · simp -implicitDefEqProofs only [SD, SF, SL, e_nf, reduceCtorEq, implies_true, ↓reduceIte, Nat.reduceEqDiff, Nat.reduceAdd, Nat.reduceMul, Nat.reduceSub, Nat.reduceLeDiff, Nat.reduceLT, Int.reduceLT, Int.reduceLE, Int.reduceEq, Int.reduceToNat, Int.reduceAdd, Int.reduceSub, Int.reduceNeg, Int.reduceBEq, Int.reduceBNe, Nat.reduceBEq, Int.cast_ofNat_Int, decide_true, decide_false, ne_eq, eq_self_iff_true, beq_eq_false_iff_ne, bne_iff_ne, List.replicate, encNw, encLk, krem', Option.getD_some, Option.getD_none] <;> simp
  · rintro n ⟨pre1, rest1, a1⟩ ⟨he1, rfl, hI1⟩
    dsimp only at he1 hI1
    cases rest1 with
    | nil =>
      obtain rfl : nw.cuts = pre1 := by simpa using he1
      clear he1
      have hlt1 : ¬ (((nw.cuts).length : Int) < ((nw.cuts).length : Int)) := Int.lt_irrefl _
      iterate 1 (all_goals (try (first
        | (with_reducible refine ite_in (fun _ => ?_) (fun _ => ?_))
        | (with_reducible refine ⟨fun _ => ?_, fun _ => ?_⟩)
        | (with_reducible refine And.intro ?_ ?_)
        | (with_reducible intro _)
        | (with_reducible exact is_in _)
        | (simp -implicitDefEqProofs only [SD, SF, SL, e_nf, reduceCtorEq, implies_true, ↓reduceIte, Nat.reduceEqDiff, Nat.reduceAdd, Nat.reduceMul, Nat.reduceSub, Nat.reduceLeDiff, Nat.reduceLT, Int.reduceLT, Int.reduceLE, Int.reduceEq, Int.reduceToNat, Int.reduceAdd, Int.reduceSub, Int.reduceNeg, Int.reduceBEq, Int.reduceBNe, Nat.reduceBEq, Int.cast_ofNat_Int, decide_true, decide_false, ne_eq, eq_self_iff_true, beq_eq_false_iff_ne, bne_iff_ne, List.replicate, encNw, encLk, krem', Option.getD_some, Option.getD_none, *]))))
      rcases hI1 with ⟨hp0, rfl⟩ | rfl
      · skip
        have hz0 : (0 : Nat) ≤ maxLen := by simp only [maxLen]; omega
        cases iz
        · have hcr : cutR nw u v false = ⟨nw.packets, []⟩ := by simp [cutR, hp0]
          iterate 40 (all_goals (try (first
            | (with_reducible refine ite_in (fun _ => ?_) (fun _ => ?_))
            | (with_reducible refine ⟨fun _ => ?_, fun _ => ?_⟩)
            | (with_reducible refine And.intro ?_ ?_)
            | (with_reducible intro _)
            | (with_reducible exact is_in _)
            | (simp -implicitDefEqProofs only [SD, SF, SL, e_nf, reduceCtorEq, implies_true, ↓reduceIte, Nat.reduceEqDiff, Nat.reduceAdd, Nat.reduceMul, Nat.reduceSub, Nat.reduceLeDiff, Nat.reduceLT, Int.reduceLT, Int.reduceLE, Int.reduceEq, Int.reduceToNat, Int.reduceAdd, Int.reduceSub, Int.reduceNeg, Int.reduceBEq, Int.reduceBNe, Nat.reduceBEq, Int.cast_ofNat_Int, decide_true, decide_false, ne_eq, eq_self_iff_true, beq_eq_false_iff_ne, bne_iff_ne, List.replicate, encNw, encLk, krem', Option.getD_some, Option.getD_none, *]))))
          all_goals (first
            | (rw [hcr]; done)
            | (rw [hcr]; rfl)
            | (rw [hcr]; simp [encLk]; done)
            | (simp_all; done)
            | omega)
        · have hcr : cutR nw u v true = ⟨nw.packets, [prR u v]⟩ := by simp [cutR, hp0, insB]
          iterate 8 (all_goals (try (first
            | (rename_i hh; exact absurd rfl hh)
            | (with_reducible refine ite_in (fun _ => ?_) (fun _ => ?_))
            | (with_reducible refine ⟨fun _ => ?_, fun _ => ?_⟩)
            | (with_reducible refine And.intro ?_ ?_)
            | (with_reducible intro _)
            | (with_reducible exact is_in _)
            | (simp -implicitDefEqProofs only [SD, SF, SL, e_nf, reduceCtorEq, implies_true, ↓reduceIte, Nat.reduceEqDiff, Nat.reduceAdd, Nat.reduceMul, Nat.reduceSub, Nat.reduceLeDiff, Nat.reduceLT, Int.reduceLT, Int.reduceLE, Int.reduceEq, Int.reduceToNat, Int.reduceAdd, Int.reduceSub, Int.reduceNeg, Int.reduceBEq, Int.reduceBNe, Nat.reduceBEq, Int.cast_ofNat_Int, decide_true, decide_false, ne_eq, eq_self_iff_true, beq_eq_false_iff_ne, bne_iff_ne, List.replicate, encNw, encLk, krem', Option.getD_some, Option.getD_none, *]))))
          refine loop_u 1 ?_
          iterate 50 (all_goals (try (first
            | ((with_reducible refine of_kSpecO ?_); refine callO_ow (ks := [26, 65]) (spec31 [] (encLk (prR u v)) 0 (by simp) (by simp)) (by repeat (first | exact KArgs.nil | refine KArgs.fz rfl ?_ | refine KArgs.own rfl rfl ?_)) rfl ?_)
            | (with_reducible refine ite_in (fun _ => ?_) (fun _ => ?_))
            | (with_reducible refine ⟨fun _ => ?_, fun _ => ?_⟩)
            | (with_reducible refine And.intro ?_ ?_)
            | (with_reducible intro _)
            | (with_reducible exact is_in _)
            | (simp -implicitDefEqProofs only [SD, SF, SL, e_nf, reduceCtorEq, implies_true, ↓reduceIte, Nat.reduceEqDiff, Nat.reduceAdd, Nat.reduceMul, Nat.reduceSub, Nat.reduceLeDiff, Nat.reduceLT, Int.reduceLT, Int.reduceLE, Int.reduceEq, Int.reduceToNat, Int.reduceAdd, Int.reduceSub, Int.reduceNeg, Int.reduceBEq, Int.reduceBNe, Nat.reduceBEq, Int.cast_ofNat_Int, decide_true, decide_false, ne_eq, eq_self_iff_true, beq_eq_false_iff_ne, bne_iff_ne, List.replicate, encNw, encLk, krem', Option.getD_some, Option.getD_none, *]))))
          all_goals (first
            | (rw [hcr]; done)
            | (rw [hcr]; rfl)
            | (rw [hcr]; simp [encLk]; done)
            | (simp_all; done)
            | omega)
      · skip
        have hkl := keep_len u v nw.cuts
        have hkm : (keepL u v nw.cuts).length ≤ maxLen := by simp only [maxLen]; omega
        cases iz
        · skip
          iterate 40 (all_goals (try (first
            | (with_reducible refine ite_in (fun _ => ?_) (fun _ => ?_))
            | (with_reducible refine ⟨fun _ => ?_, fun _ => ?_⟩)
            | (with_reducible refine And.intro ?_ ?_)
            | (with_reducible intro _)
            | (with_reducible exact is_in _)
            | (simp -implicitDefEqProofs only [SD, SF, SL, e_nf, reduceCtorEq, implies_true, ↓reduceIte, Nat.reduceEqDiff, Nat.reduceAdd, Nat.reduceMul, Nat.reduceSub, Nat.reduceLeDiff, Nat.reduceLT, Int.reduceLT, Int.reduceLE, Int.reduceEq, Int.reduceToNat, Int.reduceAdd, Int.reduceSub, Int.reduceNeg, Int.reduceBEq, Int.reduceBNe, Nat.reduceBEq, Int.cast_ofNat_Int, decide_true, decide_false, ne_eq, eq_self_iff_true, beq_eq_false_iff_ne, bne_iff_ne, List.replicate, encNw, encLk, krem', Option.getD_some, Option.getD_none, *]))))
          all_goals (first
            | (simp_all [cutR, encNw, encLk]; done)
            | omega
            | (simp only [maxLen] at *; omega))
        · skip
          iterate 8 (all_goals (try (first
            | (rename_i hh; exact absurd rfl hh)
            | (with_reducible refine ite_in (fun _ => ?_) (fun _ => ?_))
            | (with_reducible refine ⟨fun _ => ?_, fun _ => ?_⟩)
            | (with_reducible refine And.intro ?_ ?_)
            | (with_reducible intro _)
            | (with_reducible exact is_in _)
            | (simp -implicitDefEqProofs only [SD, SF, SL, e_nf, reduceCtorEq, implies_true, ↓reduceIte, Nat.reduceEqDiff, Nat.reduceAdd, Nat.reduceMul, Nat.reduceSub, Nat.reduceLeDiff, Nat.reduceLT, Int.reduceLT, Int.reduceLE, Int.reduceEq, Int.reduceToNat, Int.reduceAdd, Int.reduceSub, Int.reduceNeg, Int.reduceBEq, Int.reduceBNe, Nat.reduceBEq, Int.cast_ofNat_Int, decide_true, decide_false, ne_eq, eq_self_iff_true, beq_eq_false_iff_ne, bne_iff_ne, List.replicate, encNw, encLk, krem', Option.getD_some, Option.getD_none, *]))))
          refine loop_q (X := List Lk × List Lk × Unit) (fun n x => (keepL u v nw.cuts) = x.1 ++ x.2.1 ∧ n = x.2.1.length ∧ (x.1.all (fun y => !gtL y (prR u v)) = true)) (fun x => [(14, .int .i64 x.1.length)]) (fun _ => []) [47, 48, 49, 50, 51, 52, 53, 54, 55, 56, 57, 58, 59, 60, 61] []  ((keepL u v nw.cuts)).length ([], (keepL u v nw.cuts), ()) ⟨rfl, rfl, by rfl⟩ ?_ ?_
          · simp -implicitDefEqProofs only [SD, SF, SL, e_nf, reduceCtorEq, implies_true, ↓reduceIte, Nat.reduceEqDiff, Nat.reduceAdd, Nat.reduceMul, Nat.reduceSub, Nat.reduceLeDiff, Nat.reduceLT, Int.reduceLT, Int.reduceLE, Int.reduceEq, Int.reduceToNat, Int.reduceAdd, Int.reduceSub, Int.reduceNeg, Int.reduceBEq, Int.reduceBNe, Nat.reduceBEq, Int.cast_ofNat_Int, decide_true, decide_false, ne_eq, eq_self_iff_true, beq_eq_false_iff_ne, bne_iff_ne, List.replicate, encLk] <;> simp
          · rintro n ⟨pre2, rest2, a2⟩ ⟨he2, rfl, hI2⟩
            dsimp only at he2 hI2
            cases rest2 with
            | nil =>
              obtain rfl : (keepL u v nw.cuts) = pre2 := by simpa using he2
              clear he2
              have hlt2 : ¬ ((((keepL u v nw.cuts)).length : Int) < (((keepL u v nw.cuts)).length : Int)) := Int.lt_irrefl _
              have hq2 := (insB_end hI2).2
              have hcr : cutR nw u v true = ⟨nw.packets, insB (keepL u v nw.cuts) (prR u v)⟩ := rfl
              iterate 50 (all_goals (try (first
                | ((with_reducible refine of_kSpecO ?_); refine callO_ow (ks := [44, 65]) (spec31 ((keepL u v nw.cuts).map encLk) (encLk (prR u v)) (keepL u v nw.cuts).length (by first | (simp; done) | (have hkl := cut_lt' he2.out; simp; omega)) (by have hkl := keep_len u v nw.cuts; simp; omega)) (by repeat (first | exact KArgs.nil | refine KArgs.fz rfl ?_ | refine KArgs.own rfl rfl ?_)) rfl ?_)
                | (with_reducible refine ite_in (fun _ => ?_) (fun _ => ?_))
                | (with_reducible refine ⟨fun _ => ?_, fun _ => ?_⟩)
                | (with_reducible refine And.intro ?_ ?_)
                | (with_reducible intro _)
                | (with_reducible exact is_in _)
                | (simp -implicitDefEqProofs only [SD, SF, SL, e_nf, reduceCtorEq, implies_true, ↓reduceIte, Nat.reduceEqDiff, Nat.reduceAdd, Nat.reduceMul, Nat.reduceSub, Nat.reduceLeDiff, Nat.reduceLT, Int.reduceLT, Int.reduceLE, Int.reduceEq, Int.reduceToNat, Int.reduceAdd, Int.reduceSub, Int.reduceNeg, Int.reduceBEq, Int.reduceBNe, Nat.reduceBEq, Int.cast_ofNat_Int, decide_true, decide_false, ne_eq, eq_self_iff_true, beq_eq_false_iff_ne, bne_iff_ne, List.replicate, encLk, *]))))
              all_goals (first
                | (simp only [hcr, hq2]; done)
                | (simp only [hcr, hq2]; rfl)
                | (simp [hcr, hq2, encLk]; done)
                | (refine Or.inl ?_; simp only [encNw, hq2, encLk]; done)
                | (refine Or.inl ?_; simp only [hcr, encNw, hq2, encLk]; done)
                | (simp_all; done)
                | omega)
      
            | cons x2 rest2 =>
              have hlt2 := cut_lt he2
              have hx2 := cutD encLk he2
              simp only [encLk] at hx2
              have hw2 := wrap_len (n := pre2.length) (m := ((keepL u v nw.cuts)).length) (cut_lt' he2) hkm
              replace he2 := Hd.mk he2
              have hcr : cutR nw u v true = ⟨nw.packets, insB (keepL u v nw.cuts) (prR u v)⟩ := rfl
              cases hg2 : gtL x2 (prR u v)
              case' true => have hq2 := (insB_mid he2.out hI2 hg2).2
              iterate 50 (all_goals (try (first
                | ((with_reducible refine back_in rest2.length [47, 48, 49, 50, 51, 52, 53, 54, 55, 56, 57, 58, 59, 60, 61] [] (pre2 ++ [x2], rest2, a2) ?_ ⟨?_, ?_, ?_⟩ ?_)
                   · simp
                   · exact cut_snoc he2.out
                   · rfl
                   · first | rfl | exact all_snoc hI2 (by simp [hg2])
                   · first | (simp -implicitDefEqProofs only [SD, SF, SL, e_nf, reduceCtorEq, implies_true, ↓reduceIte, Nat.reduceEqDiff, Nat.reduceAdd, Nat.reduceMul, Nat.reduceSub, Nat.reduceLeDiff, Nat.reduceLT, Int.reduceLT, Int.reduceLE, Int.reduceEq, Int.reduceToNat, Int.reduceAdd, Int.reduceSub, Int.reduceNeg, Int.reduceBEq, Int.reduceBNe, Nat.reduceBEq, Int.cast_ofNat_Int, decide_true, decide_false, ne_eq, eq_self_iff_true, beq_eq_false_iff_ne, bne_iff_ne, List.replicate, encLk] <;> simp <;> done) | (simp -implicitDefEqProofs only [SD, SF, SL, e_nf, reduceCtorEq, implies_true, ↓reduceIte, Nat.reduceEqDiff, Nat.reduceAdd, Nat.reduceMul, Nat.reduceSub, Nat.reduceLeDiff, Nat.reduceLT, Int.reduceLT, Int.reduceLE, Int.reduceEq, Int.reduceToNat, Int.reduceAdd, Int.reduceSub, Int.reduceNeg, Int.reduceBEq, Int.reduceBNe, Nat.reduceBEq, Int.cast_ofNat_Int, decide_true, decide_false, ne_eq, eq_self_iff_true, beq_eq_false_iff_ne, bne_iff_ne, List.replicate, encLk, *] <;> simp_all <;> done))
                | ((with_reducible refine of_kSpec ?_)
                   refine call_sub (ds' := [.agg (encLk x2), .agg (encLk (prR u v))]) (spec30 x2 (prR u v)) rfl ?_ ?_
                   · simp -implicitDefEqProofs only [SD, SF, SL, e_nf, reduceCtorEq, implies_true, ↓reduceIte, Nat.reduceEqDiff, Nat.reduceAdd, Nat.reduceMul, Nat.reduceSub, Nat.reduceLeDiff, Nat.reduceLT, Int.reduceLT, Int.reduceLE, Int.reduceEq, Int.reduceToNat, Int.reduceAdd, Int.reduceSub, Int.reduceNeg, Int.reduceBEq, Int.reduceBNe, Nat.reduceBEq, Int.cast_ofNat_Int, decide_true, decide_false, ne_eq, eq_self_iff_true, beq_eq_false_iff_ne, bne_iff_ne, List.replicate, encLk, *]
                     done)
                | ((with_reducible refine of_kSpecO ?_); refine callO_ow (ks := [44, 65]) (spec31 ((keepL u v nw.cuts).map encLk) (encLk (prR u v)) pre2.length (by first | (simp; done) | (have hkl := cut_lt' he2.out; simp; omega)) (by have hkl := keep_len u v nw.cuts; simp; omega)) (by repeat (first | exact KArgs.nil | refine KArgs.fz rfl ?_ | refine KArgs.own rfl rfl ?_)) rfl ?_)
                | (with_reducible refine ite_in (fun _ => ?_) (fun _ => ?_))
                | (with_reducible refine ⟨fun _ => ?_, fun _ => ?_⟩)
                | (with_reducible refine And.intro ?_ ?_)
                | (with_reducible intro _)
                | (with_reducible exact is_in _)
                | (simp -implicitDefEqProofs only [SD, SF, SL, e_nf, reduceCtorEq, implies_true, ↓reduceIte, Nat.reduceEqDiff, Nat.reduceAdd, Nat.reduceMul, Nat.reduceSub, Nat.reduceLeDiff, Nat.reduceLT, Int.reduceLT, Int.reduceLE, Int.reduceEq, Int.reduceToNat, Int.reduceAdd, Int.reduceSub, Int.reduceNeg, Int.reduceBEq, Int.reduceBNe, Nat.reduceBEq, Int.cast_ofNat_Int, decide_true, decide_false, ne_eq, eq_self_iff_true, beq_eq_false_iff_ne, bne_iff_ne, List.replicate, encLk, *]))))
              all_goals (first
                | (simp only [hcr, hq2]; done)
                | (simp only [hcr, hq2]; rfl)
                | (simp [hcr, hq2, encLk]; done)
                | (refine Or.inl ?_; simp only [encNw, hq2, encLk]; done)
                | (refine Or.inl ?_; simp only [hcr, encNw, hq2, encLk]; done)
                | (simp_all; done)
                | omega)
    | cons x1 rest1 =>
      have hlt1 := cut_lt he1
      have hx1 := cutD encLk he1
      simp only [encLk] at hx1
      have hw1 := wrap_len (n := pre1.length) (m := (nw.cuts).length) (cut_lt' he1) hcm
      replace he1 := Hd.mk he1
      have hz1 := cut_lt' he1.out
      have hz9 := keep_len u v pre1
      have hz2 : (keepL u v pre1).length + 1 ≤ maxLen := by simp only [maxLen]; omega
      have hz3 : ((keepL u v pre1).length + 1) * 32 ≤ 140737488355328 := by omega
      have hsn := keep_snoc u v pre1 x1
      have hlk := klk_erase nw.cuts u v x1 (by rw [he1.out]; simp)
      cases hip : isP u v x1
      all_goals simp only [hip, if_true, if_false, Bool.false_eq_true] at hsn hlk
      all_goals replace hsn := Hd.mk hsn
      all_goals rcases hI1 with ⟨hp0, rfl⟩ | rfl
      all_goals try replace hp0 := Hd.mk hp0
      iterate 30 (all_goals (try (first
        | ((with_reducible refine back_in rest1.length [13, 31, 32, 33, 34, 35, 36, 37, 38, 39, 40, 41, 42, 43, 44, 45] [13, 43] (pre1 ++ [x1], rest1, (DV.ow 26, [(26, Blk.vec 49 2 [])])) ?_ ⟨?_, ?_, ?_⟩ ?_)
           · simp
           · exact cut_snoc he1.out
           · rfl
           · first | (refine .inl ⟨?_, rfl⟩; rw [hsn.out, hp0.out]; done) | (refine .inr ?_; rw [hsn.out]; done) | (refine .inr ?_; rw [hsn.out, List.map_append]; rfl) | (refine .inr ?_; rw [hsn.out, hp0.out]; rfl)
           · first | (simp -implicitDefEqProofs only [SD, SF, SL, e_nf, reduceCtorEq, implies_true, ↓reduceIte, Nat.reduceEqDiff, Nat.reduceAdd, Nat.reduceMul, Nat.reduceSub, Nat.reduceLeDiff, Nat.reduceLT, Int.reduceLT, Int.reduceLE, Int.reduceEq, Int.reduceToNat, Int.reduceAdd, Int.reduceSub, Int.reduceNeg, Int.reduceBEq, Int.reduceBNe, Nat.reduceBEq, Int.cast_ofNat_Int, decide_true, decide_false, ne_eq, eq_self_iff_true, beq_eq_false_iff_ne, bne_iff_ne, List.replicate, encNw, encLk, krem', Option.getD_some, Option.getD_none] <;> simp <;> done) | (simp -implicitDefEqProofs only [SD, SF, SL, e_nf, reduceCtorEq, implies_true, ↓reduceIte, Nat.reduceEqDiff, Nat.reduceAdd, Nat.reduceMul, Nat.reduceSub, Nat.reduceLeDiff, Nat.reduceLT, Int.reduceLT, Int.reduceLE, Int.reduceEq, Int.reduceToNat, Int.reduceAdd, Int.reduceSub, Int.reduceNeg, Int.reduceBEq, Int.reduceBNe, Nat.reduceBEq, Int.cast_ofNat_Int, decide_true, decide_false, ne_eq, eq_self_iff_true, beq_eq_false_iff_ne, bne_iff_ne, List.replicate, encNw, encLk, krem', Option.getD_some, Option.getD_none, *] <;> simp_all <;> done))
        | ((with_reducible refine back_in rest1.length [13, 31, 32, 33, 34, 35, 36, 37, 38, 39, 40, 41, 42, 43, 44, 45] [13, 43] (pre1 ++ [x1], rest1, (DV.ow 44, [(44, Blk.vec 49 2 ((keepL u v pre1).map encLk))])) ?_ ⟨?_, ?_, ?_⟩ ?_)
           · simp
           · exact cut_snoc he1.out
           · rfl
           · first | (refine .inl ⟨?_, rfl⟩; rw [hsn.out, hp0.out]; done) | (refine .inr ?_; rw [hsn.out]; done) | (refine .inr ?_; rw [hsn.out, List.map_append]; rfl) | (refine .inr ?_; rw [hsn.out, hp0.out]; rfl)
           · first | (simp -implicitDefEqProofs only [SD, SF, SL, e_nf, reduceCtorEq, implies_true, ↓reduceIte, Nat.reduceEqDiff, Nat.reduceAdd, Nat.reduceMul, Nat.reduceSub, Nat.reduceLeDiff, Nat.reduceLT, Int.reduceLT, Int.reduceLE, Int.reduceEq, Int.reduceToNat, Int.reduceAdd, Int.reduceSub, Int.reduceNeg, Int.reduceBEq, Int.reduceBNe, Nat.reduceBEq, Int.cast_ofNat_Int, decide_true, decide_false, ne_eq, eq_self_iff_true, beq_eq_false_iff_ne, bne_iff_ne, List.replicate, encNw, encLk, krem', Option.getD_some, Option.getD_none] <;> simp <;> done) | (simp -implicitDefEqProofs only [SD, SF, SL, e_nf, reduceCtorEq, implies_true, ↓reduceIte, Nat.reduceEqDiff, Nat.reduceAdd, Nat.reduceMul, Nat.reduceSub, Nat.reduceLeDiff, Nat.reduceLT, Int.reduceLT, Int.reduceLE, Int.reduceEq, Int.reduceToNat, Int.reduceAdd, Int.reduceSub, Int.reduceNeg, Int.reduceBEq, Int.reduceBNe, Nat.reduceBEq, Int.cast_ofNat_Int, decide_true, decide_false, ne_eq, eq_self_iff_true, beq_eq_false_iff_ne, bne_iff_ne, List.replicate, encNw, encLk, krem', Option.getD_some, Option.getD_none, *] <;> simp_all <;> done))
        | ((with_reducible refine back_in rest1.length [13, 31, 32, 33, 34, 35, 36, 37, 38, 39, 40, 41, 42, 43, 44, 45] [13, 43] (pre1 ++ [x1], rest1, (DV.ow 44, [(44, Blk.vec 49 2 ((keepL u v pre1).map encLk ++ [encLk x1]))])) ?_ ⟨?_, ?_, ?_⟩ ?_)
           · simp
           · exact cut_snoc he1.out
           · rfl
           · first | (refine .inl ⟨?_, rfl⟩; rw [hsn.out, hp0.out]; done) | (refine .inr ?_; rw [hsn.out]; done) | (refine .inr ?_; rw [hsn.out, List.map_append]; rfl) | (refine .inr ?_; rw [hsn.out, hp0.out]; rfl)
           · first | (simp -implicitDefEqProofs only [SD, SF, SL, e_nf, reduceCtorEq, implies_true, ↓reduceIte, Nat.reduceEqDiff, Nat.reduceAdd, Nat.reduceMul, Nat.reduceSub, Nat.reduceLeDiff, Nat.reduceLT, Int.reduceLT, Int.reduceLE, Int.reduceEq, Int.reduceToNat, Int.reduceAdd, Int.reduceSub, Int.reduceNeg, Int.reduceBEq, Int.reduceBNe, Nat.reduceBEq, Int.cast_ofNat_Int, decide_true, decide_false, ne_eq, eq_self_iff_true, beq_eq_false_iff_ne, bne_iff_ne, List.replicate, encNw, encLk, krem', Option.getD_some, Option.getD_none] <;> simp <;> done) | (simp -implicitDefEqProofs only [SD, SF, SL, e_nf, reduceCtorEq, implies_true, ↓reduceIte, Nat.reduceEqDiff, Nat.reduceAdd, Nat.reduceMul, Nat.reduceSub, Nat.reduceLeDiff, Nat.reduceLT, Int.reduceLT, Int.reduceLE, Int.reduceEq, Int.reduceToNat, Int.reduceAdd, Int.reduceSub, Int.reduceNeg, Int.reduceBEq, Int.reduceBNe, Nat.reduceBEq, Int.cast_ofNat_Int, decide_true, decide_false, ne_eq, eq_self_iff_true, beq_eq_false_iff_ne, bne_iff_ne, List.replicate, encNw, encLk, krem', Option.getD_some, Option.getD_none, *] <;> simp_all <;> done))
        | ((with_reducible refine back_in rest1.length [13, 31, 32, 33, 34, 35, 36, 37, 38, 39, 40, 41, 42, 43, 44, 45] [13, 43] (pre1 ++ [x1], rest1, (DV.ow 44, [(44, Blk.vec 49 2 [encLk x1])])) ?_ ⟨?_, ?_, ?_⟩ ?_)
           · simp
           · exact cut_snoc he1.out
           · rfl
           · first | (refine .inl ⟨?_, rfl⟩; rw [hsn.out, hp0.out]; done) | (refine .inr ?_; rw [hsn.out]; done) | (refine .inr ?_; rw [hsn.out, List.map_append]; rfl) | (refine .inr ?_; rw [hsn.out, hp0.out]; rfl)
           · first | (simp -implicitDefEqProofs only [SD, SF, SL, e_nf, reduceCtorEq, implies_true, ↓reduceIte, Nat.reduceEqDiff, Nat.reduceAdd, Nat.reduceMul, Nat.reduceSub, Nat.reduceLeDiff, Nat.reduceLT, Int.reduceLT, Int.reduceLE, Int.reduceEq, Int.reduceToNat, Int.reduceAdd, Int.reduceSub, Int.reduceNeg, Int.reduceBEq, Int.reduceBNe, Nat.reduceBEq, Int.cast_ofNat_Int, decide_true, decide_false, ne_eq, eq_self_iff_true, beq_eq_false_iff_ne, bne_iff_ne, List.replicate, encNw, encLk, krem', Option.getD_some, Option.getD_none] <;> simp <;> done) | (simp -implicitDefEqProofs only [SD, SF, SL, e_nf, reduceCtorEq, implies_true, ↓reduceIte, Nat.reduceEqDiff, Nat.reduceAdd, Nat.reduceMul, Nat.reduceSub, Nat.reduceLeDiff, Nat.reduceLT, Int.reduceLT, Int.reduceLE, Int.reduceEq, Int.reduceToNat, Int.reduceAdd, Int.reduceSub, Int.reduceNeg, Int.reduceBEq, Int.reduceBNe, Nat.reduceBEq, Int.cast_ofNat_Int, decide_true, decide_false, ne_eq, eq_self_iff_true, beq_eq_false_iff_ne, bne_iff_ne, List.replicate, encNw, encLk, krem', Option.getD_some, Option.getD_none, *] <;> simp_all <;> done))
        | ((with_reducible refine of_kSpec ?_); refine call_fz (spec28 _ _) rfl ?_)
        | (with_reducible refine ite_in (fun _ => ?_) (fun _ => ?_))
        | (with_reducible refine ⟨fun _ => ?_, fun _ => ?_⟩)
        | (with_reducible refine And.intro ?_ ?_)
        | (with_reducible intro _)
        | (with_reducible exact is_in _)
        | (simp -implicitDefEqProofs only [SD, SF, SL, e_nf, reduceCtorEq, implies_true, ↓reduceIte, Nat.reduceEqDiff, Nat.reduceAdd, Nat.reduceMul, Nat.reduceSub, Nat.reduceLeDiff, Nat.reduceLT, Int.reduceLT, Int.reduceLE, Int.reduceEq, Int.reduceToNat, Int.reduceAdd, Int.reduceSub, Int.reduceNeg, Int.reduceBEq, Int.reduceBNe, Nat.reduceBEq, Int.cast_ofNat_Int, decide_true, decide_false, ne_eq, eq_self_iff_true, beq_eq_false_iff_ne, bne_iff_ne, List.replicate, encNw, encLk, krem', Option.getD_some, Option.getD_none, *]))))
      all_goals (first | omega | (simp only [maxLen] at *; omega) | (simp only [List.length_map]; omega) | (simp_all; done))

end Go.Proofs.Ytklbfafdioeehaa.E
