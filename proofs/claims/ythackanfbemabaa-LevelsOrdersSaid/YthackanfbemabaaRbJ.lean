/-
  RbJ: walks of functions of the program at data level.
-/
import Derived.Test.YthackanfbemabaaProg
import Derived.Test.YthackanfbemabaaEngZ
import Derived.Test.YthackanfbemabaaRbI
import Derived.KernelRfl
set_option linter.unusedVariables false
set_option linter.unusedSimpArgs false
namespace Go.Proofs.Ythackanfbemabaa.E
open Go
set_option maxHeartbeats 4000000
set_option maxRecDepth 100000
set_option linter.unusedSimpArgs false
set_option linter.unusedVariables false
attribute [local congr] c_wp c_ops c_op c_opS c_run c_runS c_dt c_seq c_blk c_loop c_S c_put c_bind c_mv c_pick c_nt c_ng c_bin c_binI c_binS c_beq c_B c_eqa c_hd c_cells c_blkK c_box c_vec c_take c_ld c_ldF c_cellsK c_st c_fld c_fldv c_ix c_ixp c_ixv c_ixs c_sub c_subs c_len c_lens c_src c_dst c_ow c_app c_ext c_mm c_conv c_str c_isn c_fill c_rows c_boxo c_frz c_frzO c_frzA c_frzV c_spec c_specO c_fz c_fn c_gv c_cond c_res1 c_resL c_ret c_qret c_ite c_unr c_nx c_bk c_cut c_is
attribute [local irreducible] dwp

theorem okN_self (own a : Int) : okN own a a = true := by simp [okN]
theorem chg_self (v : Lv) (u : List UInt8) : chgR v v u = 0 :=
  chgR_ok (by simp [okNs, okN_self]) (by simp [okK, okN_self]) (by simp [okK, okN_self]) (by simp [okX, okU, okN_self]) (by simp [okX, okU, okN_self])
theorem chg_0 {old new : Lv} {user : List UInt8} (h : chgR old new user = 0) : okNs old new user = true ∧ (∀ x ∈ old.kinds ++ new.kinds, okK old new user x = true) ∧ ∀ x ∈ old.users ++ new.users, okX old new user x = true := by
  unfold chgR at h
  split at h
  · rename_i hh
    simp only [Bool.and_eq_true] at hh
    exact ⟨hh.1.1, List.all_eq_true.1 hh.1.2, List.all_eq_true.1 hh.2⟩
  · simp at h
theorem chg_named {old new : Lv} {user other : List UInt8} (h : chgR old new user = 0) (hn : (old.users.any (fun y => decide (y.user = other)) || new.users.any (fun y => decide (y.user = other))) = true) : okU old new user other = true := by
  obtain ⟨_, _, h3⟩ := chg_0 h
  rw [← List.any_append, List.any_eq_true] at hn
  obtain ⟨x, hx, hu⟩ := hn
  have := h3 x hx
  simp at hu
  unfold okX at this
  rwa [hu] at this
def ac12 : AC := (.seq (.ops [⟨(some 3), none, (.box (.t 0))⟩, ⟨(some 4), none, (.box (.t 1))⟩, ⟨(some 5), none, (.box (.t 2))⟩, ⟨(some 6), none, (.mv (.c (.bool false)))⟩]) (.seq (.draw (.q false ⟨(some 15), none, (.ixp 2 1 (.t 5) (.c (.int .i64 0)))⟩ (.q false ⟨(some 16), none, (.ld false 1 (.t 15))⟩ (.q false ⟨(some 17), none, (.ixp 2 1 (.t 5) (.c (.int .i64 1)))⟩ (.q false ⟨(some 18), none, (.ld false 1 (.t 17))⟩ (.q false ⟨(some 7), none, (.mv (.t 16))⟩ (.q false ⟨(some 8), none, (.mv (.t 18))⟩ .nil))))))) (.seq (.seq (.ops [⟨(some 19), none, (.ld true 9 (.t 3))⟩, ⟨(some 20), none, (.call false 24 [(.t 19)])⟩, ⟨(some 21), none, (.mv (.t 20))⟩, ⟨(some 22), (some (21, false)), (.ld true 9 (.t 4))⟩, ⟨(some 23), (some (21, false)), (.call false 24 [(.t 22)])⟩, ⟨(some 24), none, (.pick (.t 21) (.c (.bool true)) (.t 23))⟩]) (.cond (.t 24) (.seq (.ops [⟨(some 25), none, (.call false 25 [])⟩, ⟨(some 6), none, (.mv (.t 25))⟩]) .ret) .skip)) (.seq (.seq (.ops [⟨(some 26), none, (.ld true 9 (.t 3))⟩, ⟨(some 27), none, (.ld true 9 (.t 3))⟩, ⟨(some 28), none, (.mv (.t 7))⟩, ⟨(some 29), none, (.call false 35 [(.t 26), (.t 27), (.t 28)])⟩, ⟨(some 30), none, (.bin .neq (.t 29) (.c (.int .i64 0)))⟩]) (.cond (.t 30) (.seq (.ops [⟨(some 6), none, (.mv (.c (.bool false)))⟩]) .ret) .skip)) (.seq (.seq (.ops [⟨(some 31), none, (.ld true 9 (.t 3))⟩, ⟨(some 32), none, (.ld true 9 (.t 4))⟩, ⟨(some 33), none, (.mv (.t 7))⟩, ⟨(some 34), none, (.call false 35 [(.t 31), (.t 32), (.t 33)])⟩, ⟨(some 35), none, (.bin .neq (.t 34) (.c (.int .i64 0)))⟩]) (.cond (.t 35) (.seq (.ops [⟨(some 36), none, (.call false 25 [])⟩, ⟨(some 6), none, (.mv (.t 36))⟩]) .ret) .skip)) (.seq (.ops [⟨(some 9), none, (.mv (.c (.bool false)))⟩]) (.seq (.seq (.ops [⟨(some 10), none, (.mv (.c (.int .i64 0)))⟩]) (.block 0 (.loop (.seq (.seq (.ops [⟨(some 37), none, (.mv (.t 10))⟩, ⟨(some 38), none, (.fld 0 (.t 3))⟩, ⟨(some 39), none, (.ld false 1 (.t 38))⟩, ⟨(some 40), none, (.len (.t 39))⟩, ⟨(some 41), none, (.bin .lss (.t 37) (.t 40))⟩]) (.cond (.t 41) .skip (.exit 0))) (.seq (.block 1 (.ops [⟨(some 44), none, (.mv (.t 9))⟩, ⟨(some 45), none, (.mv (.t 44))⟩, ⟨(some 46), (some (45, false)), (.fld 0 (.t 3))⟩, ⟨(some 47), (some (45, false)), (.ld false 1 (.t 46))⟩, ⟨(some 48), (some (45, false)), (.mv (.t 10))⟩, ⟨(some 49), (some (45, false)), (.ix 2 (.t 47) (.t 48))⟩, ⟨(some 50), (some (45, false)), (.fld 0 (.t 49))⟩, ⟨(some 51), (some (45, false)), (.ld false 1 (.t 50))⟩, ⟨(some 52), (some (45, false)), (.mv (.t 8))⟩, ⟨(some 53), (some (45, false)), (.bin .eql (.t 51) (.t 52))⟩, ⟨(some 54), none, (.pick (.t 45) (.c (.bool true)) (.t 53))⟩, ⟨(some 9), none, (.mv (.t 54))⟩])) (.ops [⟨(some 42), none, (.mv (.t 10))⟩, ⟨(some 43), none, (.bin .add (.t 42) (.c (.int .i64 1)))⟩, ⟨(some 10), none, (.mv (.t 43))⟩])))))) (.seq (.seq (.ops [⟨(some 11), none, (.mv (.c (.int .i64 0)))⟩]) (.block 2 (.loop (.seq (.seq (.ops [⟨(some 55), none, (.mv (.t 11))⟩, ⟨(some 56), none, (.fld 0 (.t 4))⟩, ⟨(some 57), none, (.ld false 1 (.t 56))⟩, ⟨(some 58), none, (.len (.t 57))⟩, ⟨(some 59), none, (.bin .lss (.t 55) (.t 58))⟩]) (.cond (.t 59) .skip (.exit 2))) (.seq (.block 3 (.ops [⟨(some 62), none, (.mv (.t 9))⟩, ⟨(some 63), none, (.mv (.t 62))⟩, ⟨(some 64), (some (63, false)), (.fld 0 (.t 4))⟩, ⟨(some 65), (some (63, false)), (.ld false 1 (.t 64))⟩, ⟨(some 66), (some (63, false)), (.mv (.t 11))⟩, ⟨(some 67), (some (63, false)), (.ix 2 (.t 65) (.t 66))⟩, ⟨(some 68), (some (63, false)), (.fld 0 (.t 67))⟩, ⟨(some 69), (some (63, false)), (.ld false 1 (.t 68))⟩, ⟨(some 70), (some (63, false)), (.mv (.t 8))⟩, ⟨(some 71), (some (63, false)), (.bin .eql (.t 69) (.t 70))⟩, ⟨(some 72), none, (.pick (.t 63) (.c (.bool true)) (.t 71))⟩, ⟨(some 9), none, (.mv (.t 72))⟩])) (.ops [⟨(some 60), none, (.mv (.t 11))⟩, ⟨(some 61), none, (.bin .add (.t 60) (.c (.int .i64 1)))⟩, ⟨(some 11), none, (.mv (.t 61))⟩])))))) (.seq (.draw (.q false ⟨(some 73), none, (.ld true 9 (.t 3))⟩ (.q false ⟨(some 74), none, (.mv (.t 7))⟩ (.q false ⟨(some 76), none, (.ld true 9 (.t 3))⟩ (.q false ⟨(some 77), none, (.mv (.t 8))⟩ (.q false ⟨(some 79), none, (.ld true 9 (.t 4))⟩ (.q false ⟨(some 80), none, (.mv (.t 8))⟩ (.op ⟨(some 75), none, (.call false 26 [(.t 73), (.t 74)])⟩ (.op ⟨(some 78), none, (.call false 26 [(.t 76), (.t 77)])⟩ (.op ⟨(some 81), none, (.call false 26 [(.t 79), (.t 80)])⟩ (.q false ⟨(some 12), none, (.mv (.t 75))⟩ (.q false ⟨(some 13), none, (.mv (.t 78))⟩ (.q false ⟨(some 14), none, (.mv (.t 81))⟩ .nil))))))))))))) (.seq (.seq (.ops [⟨(some 82), none, (.mv (.t 9))⟩, ⟨(some 83), none, (.mv (.t 82))⟩, ⟨(some 84), (some (83, true)), (.mv (.t 14))⟩, ⟨(some 85), (some (83, true)), (.mv (.t 12))⟩, ⟨(some 86), (some (83, true)), (.bin .gtr (.t 84) (.t 85))⟩, ⟨(some 87), none, (.pick (.t 83) (.t 86) (.c (.bool false)))⟩, ⟨(some 88), none, (.mv (.t 87))⟩, ⟨(some 89), (some (88, true)), (.mv (.t 14))⟩, ⟨(some 90), (some (88, true)), (.mv (.t 13))⟩, ⟨(some 91), (some (88, true)), (.bin .neq (.t 89) (.t 90))⟩, ⟨(some 92), none, (.pick (.t 88) (.t 91) (.c (.bool false)))⟩, ⟨(some 93), none, (.mv (.t 92))⟩, ⟨(some 94), (some (93, false)), (.mv (.t 9))⟩, ⟨(some 95), (some (93, false)), (.mv (.t 94))⟩, ⟨(some 96), (some (95, true)), (.mv (.t 8))⟩, ⟨(some 97), (some (95, true)), (.mv (.t 7))⟩, ⟨(some 98), (some (95, true)), (.bin .neq (.t 96) (.t 97))⟩, ⟨(some 99), (some (93, false)), (.pick (.t 95) (.t 98) (.c (.bool false)))⟩, ⟨(some 100), (some (93, false)), (.mv (.t 99))⟩, ⟨(some 101), (some (100, true)), (.mv (.t 13))⟩, ⟨(some 102), (some (100, true)), (.mv (.t 12))⟩, ⟨(some 103), (some (100, true)), (.bin .geq (.t 101) (.t 102))⟩, ⟨(some 104), (some (93, false)), (.pick (.t 100) (.t 103) (.c (.bool false)))⟩, ⟨(some 105), (some (93, false)), (.mv (.t 104))⟩, ⟨(some 106), (some (105, true)), (.mv (.t 14))⟩, ⟨(some 107), (some (105, true)), (.mv (.t 13))⟩, ⟨(some 108), (some (105, true)), (.bin .neq (.t 106) (.t 107))⟩, ⟨(some 109), (some (93, false)), (.pick (.t 105) (.t 108) (.c (.bool false)))⟩, ⟨(some 110), none, (.pick (.t 93) (.c (.bool true)) (.t 109))⟩]) (.cond (.t 110) (.seq (.ops [⟨(some 6), none, (.mv (.c (.bool false)))⟩]) .ret) .skip)) (.seq (.ops [⟨(some 111), none, (.fld 7 (.t 3))⟩, ⟨(some 112), none, (.ld false 1 (.t 111))⟩, ⟨(some 113), none, (.fld 7 (.t 4))⟩, ⟨(some 114), none, (.ld false 1 (.t 113))⟩, ⟨(some 115), none, (.bin .eql (.t 112) (.t 114))⟩, ⟨(some 116), none, (.mv (.t 115))⟩, ⟨(some 117), (some (116, false)), (.fld 7 (.t 3))⟩, ⟨(some 118), (some (116, false)), (.ld false 1 (.t 117))⟩, ⟨(some 119), (some (116, false)), (.mv (.t 12))⟩, ⟨(some 120), (some (116, false)), (.bin .leq (.t 118) (.t 119))⟩, ⟨(some 121), (some (116, false)), (.mv (.t 120))⟩, ⟨(some 122), (some (121, true)), (.fld 7 (.t 4))⟩, ⟨(some 123), (some (121, true)), (.ld false 1 (.t 122))⟩, ⟨(some 124), (some (121, true)), (.mv (.t 12))⟩, ⟨(some 125), (some (121, true)), (.bin .leq (.t 123) (.t 124))⟩, ⟨(some 126), (some (116, false)), (.pick (.t 121) (.t 125) (.c (.bool false)))⟩, ⟨(some 127), none, (.pick (.t 116) (.c (.bool true)) (.t 126))⟩, ⟨(some 128), none, (.mv (.t 127))⟩, ⟨(some 129), (some (128, true)), (.call false 25 [])⟩, ⟨(some 130), none, (.pick (.t 128) (.t 129) (.c (.bool false)))⟩, ⟨(some 6), none, (.mv (.t 130))⟩]) .ret)))))))))))
theorem tr12 : Try.f12.body.bind (trCode Try.prog) = some (strip ac12) := by kernel_rfl
theorem spec12 (old new : Lv) (u v : List UInt8) : Spec Try.prog 12 [.fz (.agg (encLv old)), .fz (.agg (encLv new)), .fz (.agg [.str u, .str v])] (.fz (.bool true)) := by
  refine spec_at (n := 128) (ars := [(.t 6)]) (ac := ac12) Try.func12 (by kernel_rfl) (by kernel_rfl) tr12 (by kernel_rfl) ?_
  unfold ac12
  have h0 := chg_self old u
  iterate 40 (all_goals (try (first
    | ((with_reducible refine of_kSpec ?_); refine call_fz (spec24 old) rfl ?_)
    | ((with_reducible refine of_kSpec ?_); refine call_fz (spec24 new) rfl ?_)
    | ((with_reducible refine of_kSpec ?_); refine call_fz (spec25) rfl ?_)
    | ((with_reducible refine of_kSpec ?_); refine call_fz (spec35 old old u) rfl ?_)
    | ((with_reducible refine of_kSpec ?_); refine call_fz (spec35 old new u) rfl ?_)
    | (with_reducible refine ite_in (fun _ => ?_) (fun _ => ?_))
    | (with_reducible refine ⟨fun _ => ?_, fun _ => ?_⟩)
    | (with_reducible refine And.intro ?_ ?_)
    | (with_reducible intro _)
    | (with_reducible exact is_in _)
    | (simp -implicitDefEqProofs only [SD, SF, SL, e_nf, reduceCtorEq, implies_true, ↓reduceIte, Nat.reduceEqDiff, Nat.reduceAdd, Nat.reduceMul, Nat.reduceSub, Nat.reduceLeDiff, Nat.reduceLT, Int.reduceLT, Int.reduceLE, Int.reduceEq, Int.reduceToNat, Int.reduceAdd, Int.reduceSub, Int.reduceNeg, Int.reduceBEq, Int.reduceBNe, Nat.reduceBEq, Int.cast_ofNat_Int, decide_true, decide_false, ne_eq, eq_self_iff_true, beq_eq_false_iff_ne, bne_iff_ne, List.replicate, encLv, *]))))
  refine loop_q (X := List LU × List LU × Bool) (fun n x => old.users = x.1 ++ x.2.1 ∧ n = x.2.1.length ∧ (x.1.any (fun y => decide (y.user = v)) = x.2.2)) (fun x => [(10, .int .i64 x.1.length), (9, .bool x.2.2)]) (fun _ => []) [37, 38, 39, 40, 41, 42, 43, 44, 45, 46, 47, 48, 49, 50, 51, 52, 53, 54] [] (old.users).length ([], old.users, false) ⟨rfl, rfl, by first | rfl | assumption | (simp_all []; done) | grind []⟩ ?_ ?_
  · simp -implicitDefEqProofs only [SD, SF, SL, e_nf, reduceCtorEq, implies_true, ↓reduceIte, Nat.reduceEqDiff, Nat.reduceAdd, Nat.reduceMul, Nat.reduceSub, Nat.reduceLeDiff, Nat.reduceLT, Int.reduceLT, Int.reduceLE, Int.reduceEq, Int.reduceToNat, Int.reduceAdd, Int.reduceSub, Int.reduceNeg, Int.reduceBEq, Int.reduceBNe, Nat.reduceBEq, Int.cast_ofNat_Int, decide_true, decide_false, ne_eq, eq_self_iff_true, beq_eq_false_iff_ne, bne_iff_ne, List.replicate, encLv] <;> simp
  · rintro n ⟨pre1, rest1, a1⟩ ⟨he1, rfl, hI1⟩
    dsimp only at he1 hI1
    cases rest1 with
    | nil =>
      obtain rfl : old.users = pre1 := by simpa using he1
      clear he1
      have hlt1 : ¬ (((old.users).length : Int) < ((old.users).length : Int)) := Int.lt_irrefl _
      iterate 30 (all_goals (try (first
        | (with_reducible refine ite_in (fun _ => ?_) (fun _ => ?_))
        | (with_reducible refine ⟨fun _ => ?_, fun _ => ?_⟩)
        | (with_reducible refine And.intro ?_ ?_)
        | (with_reducible intro _)
        | (with_reducible exact is_in _)
        | (simp -implicitDefEqProofs only [SD, SF, SL, e_nf, reduceCtorEq, implies_true, ↓reduceIte, Nat.reduceEqDiff, Nat.reduceAdd, Nat.reduceMul, Nat.reduceSub, Nat.reduceLeDiff, Nat.reduceLT, Int.reduceLT, Int.reduceLE, Int.reduceEq, Int.reduceToNat, Int.reduceAdd, Int.reduceSub, Int.reduceNeg, Int.reduceBEq, Int.reduceBNe, Nat.reduceBEq, Int.cast_ofNat_Int, decide_true, decide_false, ne_eq, eq_self_iff_true, beq_eq_false_iff_ne, bne_iff_ne, List.replicate, encLv, *]))))
      iterate 4 (all_goals (try (first
        | (with_reducible refine ite_in (fun _ => ?_) (fun _ => ?_))
        | (with_reducible refine ⟨fun _ => ?_, fun _ => ?_⟩)
        | (with_reducible refine And.intro ?_ ?_)
        | (with_reducible intro _)
        | (with_reducible exact is_in _)
        | (simp -implicitDefEqProofs only [SD, SF, SL, e_nf, reduceCtorEq, implies_true, ↓reduceIte, Nat.reduceEqDiff, Nat.reduceAdd, Nat.reduceMul, Nat.reduceSub, Nat.reduceLeDiff, Nat.reduceLT, Int.reduceLT, Int.reduceLE, Int.reduceEq, Int.reduceToNat, Int.reduceAdd, Int.reduceSub, Int.reduceNeg, Int.reduceBEq, Int.reduceBNe, Nat.reduceBEq, Int.cast_ofNat_Int, decide_true, decide_false, ne_eq, eq_self_iff_true, beq_eq_false_iff_ne, bne_iff_ne, List.replicate, encLv, *]))))
      refine loop_q (X := List LU × List LU × Bool) (fun n x => new.users = x.1 ++ x.2.1 ∧ n = x.2.1.length ∧ ((a1 || x.1.any (fun y => decide (y.user = v))) = x.2.2)) (fun x => [(11, .int .i64 x.1.length), (9, .bool x.2.2)]) (fun _ => []) [55, 56, 57, 58, 59, 60, 61, 62, 63, 64, 65, 66, 67, 68, 69, 70, 71, 72] [] (new.users).length ([], new.users, a1) ⟨rfl, rfl, by first | rfl | assumption | (simp_all []; done) | grind []⟩ ?_ ?_
      · simp -implicitDefEqProofs only [SD, SF, SL, e_nf, reduceCtorEq, implies_true, ↓reduceIte, Nat.reduceEqDiff, Nat.reduceAdd, Nat.reduceMul, Nat.reduceSub, Nat.reduceLeDiff, Nat.reduceLT, Int.reduceLT, Int.reduceLE, Int.reduceEq, Int.reduceToNat, Int.reduceAdd, Int.reduceSub, Int.reduceNeg, Int.reduceBEq, Int.reduceBNe, Nat.reduceBEq, Int.cast_ofNat_Int, decide_true, decide_false, ne_eq, eq_self_iff_true, beq_eq_false_iff_ne, bne_iff_ne, List.replicate, encLv] <;> simp
      · rintro n ⟨pre2, rest2, a2⟩ ⟨he2, rfl, hI2⟩
        dsimp only at he2 hI2
        cases rest2 with
        | nil =>
          obtain rfl : new.users = pre2 := by simpa using he2
          clear he2
          have hlt2 : ¬ (((new.users).length : Int) < ((new.users).length : Int)) := Int.lt_irrefl _
          iterate 30 (all_goals (try (first
            | (with_reducible refine ite_in (fun _ => ?_) (fun _ => ?_))
            | (with_reducible refine ⟨fun _ => ?_, fun _ => ?_⟩)
            | (with_reducible refine And.intro ?_ ?_)
            | (with_reducible intro _)
            | (with_reducible exact is_in _)
            | (simp -implicitDefEqProofs only [SD, SF, SL, e_nf, reduceCtorEq, implies_true, ↓reduceIte, Nat.reduceEqDiff, Nat.reduceAdd, Nat.reduceMul, Nat.reduceSub, Nat.reduceLeDiff, Nat.reduceLT, Int.reduceLT, Int.reduceLE, Int.reduceEq, Int.reduceToNat, Int.reduceAdd, Int.reduceSub, Int.reduceNeg, Int.reduceBEq, Int.reduceBNe, Nat.reduceBEq, Int.cast_ofNat_Int, decide_true, decide_false, ne_eq, eq_self_iff_true, beq_eq_false_iff_ne, bne_iff_ne, List.replicate, encLv, *]))))
          have hU : a2 = true → okU old new u v = true := fun h => chg_named ‹chgR old new u = 0› (by rw [hI1, hI2]; exact h)
          have hNs := (chg_0 ‹chgR old new u = 0›).1
          clear hI1 hI2
          simp only [okU, okN, userV, okNs, Bool.and_eq_true, decide_eq_true_eq] at hU hNs
          iterate 80 (all_goals (try (first
            | ((with_reducible refine of_kSpec ?_); refine call_fz (spec26 old u) rfl ?_)
            | ((with_reducible refine of_kSpec ?_); refine call_fz (spec26 old v) rfl ?_)
            | ((with_reducible refine of_kSpec ?_); refine call_fz (spec26 new v) rfl ?_)
            | ((with_reducible refine of_kSpec ?_); refine call_fz (spec25) rfl ?_)
            | (with_reducible refine ite_in (fun _ => ?_) (fun _ => ?_))
            | (with_reducible refine ⟨fun _ => ?_, fun _ => ?_⟩)
            | (with_reducible refine And.intro ?_ ?_)
            | (with_reducible intro _)
            | (with_reducible exact is_in _)
            | (simp -implicitDefEqProofs only [SD, SF, SL, e_nf, reduceCtorEq, implies_true, ↓reduceIte, Nat.reduceEqDiff, Nat.reduceAdd, Nat.reduceMul, Nat.reduceSub, Nat.reduceLeDiff, Nat.reduceLT, Int.reduceLT, Int.reduceLE, Int.reduceEq, Int.reduceToNat, Int.reduceAdd, Int.reduceSub, Int.reduceNeg, Int.reduceBEq, Int.reduceBNe, Nat.reduceBEq, Int.cast_ofNat_Int, decide_true, decide_false, ne_eq, eq_self_iff_true, beq_eq_false_iff_ne, bne_iff_ne, List.replicate, encLv, *]))))
          all_goals (grind)
        | cons x2 rest2 =>
          have hlt2 := cut_lt he2
          have hx2 := cutD encLU he2
          simp only [encLU] at hx2
          simp -implicitDefEqProofs only [SD, SF, SL, e_nf, reduceCtorEq, implies_true, ↓reduceIte, Nat.reduceEqDiff, Nat.reduceAdd, Nat.reduceMul, Nat.reduceSub, Nat.reduceLeDiff, Nat.reduceLT, Int.reduceLT, Int.reduceLE, Int.reduceEq, Int.reduceToNat, Int.reduceAdd, Int.reduceSub, Int.reduceNeg, Int.reduceBEq, Int.reduceBNe, Nat.reduceBEq, Int.cast_ofNat_Int, decide_true, decide_false, ne_eq, eq_self_iff_true, beq_eq_false_iff_ne, bne_iff_ne, List.replicate, encLv, hlt2]
          intro hl
          have hw2 := wrap_len (n := pre2.length) (m := (new.users).length) (cut_lt' he2) (by simpa using hl)
          replace he2 := Hd.mk he2
          iterate 30 (all_goals (try (first
            | ((with_reducible refine back_in rest2.length [55, 56, 57, 58, 59, 60, 61, 62, 63, 64, 65, 66, 67, 68, 69, 70, 71, 72] [] (pre2 ++ [x2], rest2, true) ?_ ⟨?_, ?_, ?_⟩ ?_)
               · simp
               · exact cut_snoc he2.out
               · rfl
               · first | rfl | assumption | (simp_all []; done) | grind []
               · first | (simp -implicitDefEqProofs only [SD, SF, SL, e_nf, reduceCtorEq, implies_true, ↓reduceIte, Nat.reduceEqDiff, Nat.reduceAdd, Nat.reduceMul, Nat.reduceSub, Nat.reduceLeDiff, Nat.reduceLT, Int.reduceLT, Int.reduceLE, Int.reduceEq, Int.reduceToNat, Int.reduceAdd, Int.reduceSub, Int.reduceNeg, Int.reduceBEq, Int.reduceBNe, Nat.reduceBEq, Int.cast_ofNat_Int, decide_true, decide_false, ne_eq, eq_self_iff_true, beq_eq_false_iff_ne, bne_iff_ne, List.replicate, encLv] <;> simp <;> done) | (simp -implicitDefEqProofs only [SD, SF, SL, e_nf, reduceCtorEq, implies_true, ↓reduceIte, Nat.reduceEqDiff, Nat.reduceAdd, Nat.reduceMul, Nat.reduceSub, Nat.reduceLeDiff, Nat.reduceLT, Int.reduceLT, Int.reduceLE, Int.reduceEq, Int.reduceToNat, Int.reduceAdd, Int.reduceSub, Int.reduceNeg, Int.reduceBEq, Int.reduceBNe, Nat.reduceBEq, Int.cast_ofNat_Int, decide_true, decide_false, ne_eq, eq_self_iff_true, beq_eq_false_iff_ne, bne_iff_ne, List.replicate, encLv, *] <;> simp_all <;> done))
            | ((with_reducible refine back_in rest2.length [55, 56, 57, 58, 59, 60, 61, 62, 63, 64, 65, 66, 67, 68, 69, 70, 71, 72] [] (pre2 ++ [x2], rest2, decide (x2.user = v)) ?_ ⟨?_, ?_, ?_⟩ ?_)
               · simp
               · exact cut_snoc he2.out
               · rfl
               · first | rfl | assumption | (simp_all []; done) | grind []
               · first | (simp -implicitDefEqProofs only [SD, SF, SL, e_nf, reduceCtorEq, implies_true, ↓reduceIte, Nat.reduceEqDiff, Nat.reduceAdd, Nat.reduceMul, Nat.reduceSub, Nat.reduceLeDiff, Nat.reduceLT, Int.reduceLT, Int.reduceLE, Int.reduceEq, Int.reduceToNat, Int.reduceAdd, Int.reduceSub, Int.reduceNeg, Int.reduceBEq, Int.reduceBNe, Nat.reduceBEq, Int.cast_ofNat_Int, decide_true, decide_false, ne_eq, eq_self_iff_true, beq_eq_false_iff_ne, bne_iff_ne, List.replicate, encLv] <;> simp <;> done) | (simp -implicitDefEqProofs only [SD, SF, SL, e_nf, reduceCtorEq, implies_true, ↓reduceIte, Nat.reduceEqDiff, Nat.reduceAdd, Nat.reduceMul, Nat.reduceSub, Nat.reduceLeDiff, Nat.reduceLT, Int.reduceLT, Int.reduceLE, Int.reduceEq, Int.reduceToNat, Int.reduceAdd, Int.reduceSub, Int.reduceNeg, Int.reduceBEq, Int.reduceBNe, Nat.reduceBEq, Int.cast_ofNat_Int, decide_true, decide_false, ne_eq, eq_self_iff_true, beq_eq_false_iff_ne, bne_iff_ne, List.replicate, encLv, *] <;> simp_all <;> done))
            | (with_reducible refine ite_in (fun _ => ?_) (fun _ => ?_))
            | (with_reducible refine ⟨fun _ => ?_, fun _ => ?_⟩)
            | (with_reducible refine And.intro ?_ ?_)
            | (with_reducible intro _)
            | (with_reducible exact is_in _)
            | (simp -implicitDefEqProofs only [SD, SF, SL, e_nf, reduceCtorEq, implies_true, ↓reduceIte, Nat.reduceEqDiff, Nat.reduceAdd, Nat.reduceMul, Nat.reduceSub, Nat.reduceLeDiff, Nat.reduceLT, Int.reduceLT, Int.reduceLE, Int.reduceEq, Int.reduceToNat, Int.reduceAdd, Int.reduceSub, Int.reduceNeg, Int.reduceBEq, Int.reduceBNe, Nat.reduceBEq, Int.cast_ofNat_Int, decide_true, decide_false, ne_eq, eq_self_iff_true, beq_eq_false_iff_ne, bne_iff_ne, List.replicate, encLv, *]))))
    | cons x1 rest1 =>
      have hlt1 := cut_lt he1
      have hx1 := cutD encLU he1
      simp only [encLU] at hx1
      simp -implicitDefEqProofs only [SD, SF, SL, e_nf, reduceCtorEq, implies_true, ↓reduceIte, Nat.reduceEqDiff, Nat.reduceAdd, Nat.reduceMul, Nat.reduceSub, Nat.reduceLeDiff, Nat.reduceLT, Int.reduceLT, Int.reduceLE, Int.reduceEq, Int.reduceToNat, Int.reduceAdd, Int.reduceSub, Int.reduceNeg, Int.reduceBEq, Int.reduceBNe, Nat.reduceBEq, Int.cast_ofNat_Int, decide_true, decide_false, ne_eq, eq_self_iff_true, beq_eq_false_iff_ne, bne_iff_ne, List.replicate, encLv, hlt1]
      intro hl
      have hw1 := wrap_len (n := pre1.length) (m := (old.users).length) (cut_lt' he1) (by simpa using hl)
      replace he1 := Hd.mk he1
      iterate 30 (all_goals (try (first
        | ((with_reducible refine back_in rest1.length [37, 38, 39, 40, 41, 42, 43, 44, 45, 46, 47, 48, 49, 50, 51, 52, 53, 54] [] (pre1 ++ [x1], rest1, true) ?_ ⟨?_, ?_, ?_⟩ ?_)
           · simp
           · exact cut_snoc he1.out
           · rfl
           · first | rfl | assumption | (simp_all []; done) | grind []
           · first | (simp -implicitDefEqProofs only [SD, SF, SL, e_nf, reduceCtorEq, implies_true, ↓reduceIte, Nat.reduceEqDiff, Nat.reduceAdd, Nat.reduceMul, Nat.reduceSub, Nat.reduceLeDiff, Nat.reduceLT, Int.reduceLT, Int.reduceLE, Int.reduceEq, Int.reduceToNat, Int.reduceAdd, Int.reduceSub, Int.reduceNeg, Int.reduceBEq, Int.reduceBNe, Nat.reduceBEq, Int.cast_ofNat_Int, decide_true, decide_false, ne_eq, eq_self_iff_true, beq_eq_false_iff_ne, bne_iff_ne, List.replicate, encLv] <;> simp <;> done) | (simp -implicitDefEqProofs only [SD, SF, SL, e_nf, reduceCtorEq, implies_true, ↓reduceIte, Nat.reduceEqDiff, Nat.reduceAdd, Nat.reduceMul, Nat.reduceSub, Nat.reduceLeDiff, Nat.reduceLT, Int.reduceLT, Int.reduceLE, Int.reduceEq, Int.reduceToNat, Int.reduceAdd, Int.reduceSub, Int.reduceNeg, Int.reduceBEq, Int.reduceBNe, Nat.reduceBEq, Int.cast_ofNat_Int, decide_true, decide_false, ne_eq, eq_self_iff_true, beq_eq_false_iff_ne, bne_iff_ne, List.replicate, encLv, *] <;> simp_all <;> done))
        | ((with_reducible refine back_in rest1.length [37, 38, 39, 40, 41, 42, 43, 44, 45, 46, 47, 48, 49, 50, 51, 52, 53, 54] [] (pre1 ++ [x1], rest1, decide (x1.user = v)) ?_ ⟨?_, ?_, ?_⟩ ?_)
           · simp
           · exact cut_snoc he1.out
           · rfl
           · first | rfl | assumption | (simp_all []; done) | grind []
           · first | (simp -implicitDefEqProofs only [SD, SF, SL, e_nf, reduceCtorEq, implies_true, ↓reduceIte, Nat.reduceEqDiff, Nat.reduceAdd, Nat.reduceMul, Nat.reduceSub, Nat.reduceLeDiff, Nat.reduceLT, Int.reduceLT, Int.reduceLE, Int.reduceEq, Int.reduceToNat, Int.reduceAdd, Int.reduceSub, Int.reduceNeg, Int.reduceBEq, Int.reduceBNe, Nat.reduceBEq, Int.cast_ofNat_Int, decide_true, decide_false, ne_eq, eq_self_iff_true, beq_eq_false_iff_ne, bne_iff_ne, List.replicate, encLv] <;> simp <;> done) | (simp -implicitDefEqProofs only [SD, SF, SL, e_nf, reduceCtorEq, implies_true, ↓reduceIte, Nat.reduceEqDiff, Nat.reduceAdd, Nat.reduceMul, Nat.reduceSub, Nat.reduceLeDiff, Nat.reduceLT, Int.reduceLT, Int.reduceLE, Int.reduceEq, Int.reduceToNat, Int.reduceAdd, Int.reduceSub, Int.reduceNeg, Int.reduceBEq, Int.reduceBNe, Nat.reduceBEq, Int.cast_ofNat_Int, decide_true, decide_false, ne_eq, eq_self_iff_true, beq_eq_false_iff_ne, bne_iff_ne, List.replicate, encLv, *] <;> simp_all <;> done))
        | (with_reducible refine ite_in (fun _ => ?_) (fun _ => ?_))
        | (with_reducible refine ⟨fun _ => ?_, fun _ => ?_⟩)
        | (with_reducible refine And.intro ?_ ?_)
        | (with_reducible intro _)
        | (with_reducible exact is_in _)
        | (simp -implicitDefEqProofs only [SD, SF, SL, e_nf, reduceCtorEq, implies_true, ↓reduceIte, Nat.reduceEqDiff, Nat.reduceAdd, Nat.reduceMul, Nat.reduceSub, Nat.reduceLeDiff, Nat.reduceLT, Int.reduceLT, Int.reduceLE, Int.reduceEq, Int.reduceToNat, Int.reduceAdd, Int.reduceSub, Int.reduceNeg, Int.reduceBEq, Int.reduceBNe, Nat.reduceBEq, Int.cast_ofNat_Int, decide_true, decide_false, ne_eq, eq_self_iff_true, beq_eq_false_iff_ne, bne_iff_ne, List.replicate, encLv, *]))))

end Go.Proofs.Ythackanfbemabaa.E
