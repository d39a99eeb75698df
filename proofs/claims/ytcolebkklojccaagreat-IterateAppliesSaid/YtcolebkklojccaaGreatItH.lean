/-
  ItH: walks of functions of the program at data level.
-/
import Derived.Test.YtcolebkklojccaaGreatProg
import Derived.Test.YtcolebkklojccaaGreatEngZ
import Derived.Test.YtcolebkklojccaaGreatItB
import Derived.KernelRfl
set_option linter.unusedVariables false
set_option linter.unusedSimpArgs false
namespace Go.Proofs.YtcolebkklojccaaGreat.E
open Go
set_option maxHeartbeats 4000000
set_option maxRecDepth 100000
set_option linter.unusedSimpArgs false
set_option linter.unusedVariables false
attribute [local congr] c_wp c_ops c_op c_opS c_run c_runS c_dt c_seq c_blk c_loop c_S c_put c_bind c_mv c_pick c_nt c_ng c_bin c_binI c_binS c_beq c_B c_eqa c_hd c_cells c_blkK c_box c_vec c_mp c_nck c_mks c_appn c_mkm c_mput c_mlk c_mrm c_take c_ld c_ldF c_cellsK c_st c_fld c_fldv c_ix c_ixp c_ixv c_ixs c_sub c_subs c_len c_lens c_src c_dst c_ow c_app c_ext c_mm c_conv c_str c_isn c_fill c_rows c_boxo c_frz c_frzO c_frzA c_frzV c_spec c_specO c_opsP c_opP c_runP c_specP c_Z c_qretP c_fz c_fn c_gv c_cond c_res1 c_resL c_ret c_qret c_ite c_unr c_nx c_bk c_cut c_is
attribute [local irreducible] dwp

theorem any_cut {α : Type} {p : α → Bool} {es pre : List α} {x : α} {rest : List α} (h : es = pre ++ x :: rest) (hx : p x = true) : es.any p = true := by
  subst h
  simp [hx]
theorem any_snoc {α : Type} {p : α → Bool} {pre : List α} {x : α} (h : pre.any p = false) (hx : p x = false) : (pre ++ [x]).any p = false := by simp [h, hx]
def lenG (n : Nat) (s : List UInt8) : Bool := decide (n < s.length)
def lenU (x : LU) : Bool := decide (2000 < x.user.length)
def longE (e : Ev) : Bool := decide (40 < e.prev.length ∨ 40 < e.auth.length ∨ 40 < e.allow.length ∨ 40 < e.deny.length ∨ 40 < e.lv.users.length ∨ 40 < e.lv.kinds.length ∨ 2000 < e.room.length ∨ 2000 < e.sender.length ∨ 2000 < e.key.length ∨ 2000 < e.txt.length ∨ 2000 < e.via.length ∨ 2000 < e.sigS.length) || (e.allow.any (lenG 2000) || (e.deny.any (lenG 2000) || e.lv.users.any lenU))
def greatE (es : List Ev) (n : Int) : Bool := decide (n < es.length) || es.any longE
theorem dT {p : Prop} [Decidable p] {b : Bool} (h : p) : true = (decide p || b) := by simp [h]
def ac22 : AC := (.seq (.ops [⟨(some 1), none, (.box (.t 0))⟩, ⟨(some 2), none, (.mv (.c (.bool false)))⟩]) (.seq (.ops [⟨(some 7), none, (.fld 10 (.t 1))⟩, ⟨(some 8), none, (.ld true 16 (.t 7))⟩, ⟨(some 3), none, (.alloc [(.str []), (.int .i64 0), (.int .i64 0), (.bool false), (.str []), .e0, .e0, .e0, .e0, (.int .i64 0), (.int .i64 0), (.int .i64 0), (.int .i64 0), (.int .i64 0), (.int .i64 0), (.int .i64 0)])⟩, ⟨none, none, (.sto 16 (.t 3) (.t 8))⟩]) (.seq (.seq (.ops [⟨(some 9), none, (.fld 8 (.t 1))⟩, ⟨(some 10), none, (.ld false 1 (.t 9))⟩, ⟨(some 11), none, (.len (.t 10))⟩, ⟨(some 12), none, (.bin .gtr (.t 11) (.c (.int .i64 40)))⟩, ⟨(some 13), none, (.mv (.t 12))⟩, ⟨(some 14), (some (13, false)), (.fld 9 (.t 1))⟩, ⟨(some 15), (some (13, false)), (.ld false 1 (.t 14))⟩, ⟨(some 16), (some (13, false)), (.len (.t 15))⟩, ⟨(some 17), (some (13, false)), (.bin .gtr (.t 16) (.c (.int .i64 40)))⟩, ⟨(some 18), none, (.pick (.t 13) (.c (.bool true)) (.t 17))⟩, ⟨(some 19), none, (.mv (.t 18))⟩, ⟨(some 20), (some (19, false)), (.fld 5 (.t 3))⟩, ⟨(some 21), (some (19, false)), (.ld false 1 (.t 20))⟩, ⟨(some 22), (some (19, false)), (.len (.t 21))⟩, ⟨(some 23), (some (19, false)), (.bin .gtr (.t 22) (.c (.int .i64 40)))⟩, ⟨(some 24), none, (.pick (.t 19) (.c (.bool true)) (.t 23))⟩, ⟨(some 25), none, (.mv (.t 24))⟩, ⟨(some 26), (some (25, false)), (.fld 6 (.t 3))⟩, ⟨(some 27), (some (25, false)), (.ld false 1 (.t 26))⟩, ⟨(some 28), (some (25, false)), (.len (.t 27))⟩, ⟨(some 29), (some (25, false)), (.bin .gtr (.t 28) (.c (.int .i64 40)))⟩, ⟨(some 30), none, (.pick (.t 25) (.c (.bool true)) (.t 29))⟩, ⟨(some 31), none, (.mv (.t 30))⟩, ⟨(some 32), (some (31, false)), (.fld 7 (.t 3))⟩, ⟨(some 33), (some (31, false)), (.fld 0 (.t 32))⟩, ⟨(some 34), (some (31, false)), (.ld false 1 (.t 33))⟩, ⟨(some 35), (some (31, false)), (.len (.t 34))⟩, ⟨(some 36), (some (31, false)), (.bin .gtr (.t 35) (.c (.int .i64 40)))⟩, ⟨(some 37), none, (.pick (.t 31) (.c (.bool true)) (.t 36))⟩, ⟨(some 38), none, (.mv (.t 37))⟩, ⟨(some 39), (some (38, false)), (.fld 7 (.t 3))⟩, ⟨(some 40), (some (38, false)), (.fld 1 (.t 39))⟩, ⟨(some 41), (some (38, false)), (.ld false 1 (.t 40))⟩, ⟨(some 42), (some (38, false)), (.len (.t 41))⟩, ⟨(some 43), (some (38, false)), (.bin .gtr (.t 42) (.c (.int .i64 40)))⟩, ⟨(some 44), none, (.pick (.t 38) (.c (.bool true)) (.t 43))⟩]) (.cond (.t 44) (.seq (.ops [⟨(some 2), none, (.mv (.c (.bool true)))⟩]) .ret) .skip)) (.seq (.seq (.ops [⟨(some 45), none, (.fld 1 (.t 1))⟩, ⟨(some 46), none, (.ld false 1 (.t 45))⟩, ⟨(some 47), none, (.lens (.t 46))⟩, ⟨(some 48), none, (.bin .gtr (.t 47) (.c (.int .i64 2000)))⟩, ⟨(some 49), none, (.mv (.t 48))⟩, ⟨(some 50), (some (49, false)), (.fld 2 (.t 1))⟩, ⟨(some 51), (some (49, false)), (.ld false 1 (.t 50))⟩, ⟨(some 52), (some (49, false)), (.lens (.t 51))⟩, ⟨(some 53), (some (49, false)), (.bin .gtr (.t 52) (.c (.int .i64 2000)))⟩, ⟨(some 54), none, (.pick (.t 49) (.c (.bool true)) (.t 53))⟩, ⟨(some 55), none, (.mv (.t 54))⟩, ⟨(some 56), (some (55, false)), (.fld 5 (.t 1))⟩, ⟨(some 57), (some (55, false)), (.ld false 1 (.t 56))⟩, ⟨(some 58), (some (55, false)), (.lens (.t 57))⟩, ⟨(some 59), (some (55, false)), (.bin .gtr (.t 58) (.c (.int .i64 2000)))⟩, ⟨(some 60), none, (.pick (.t 55) (.c (.bool true)) (.t 59))⟩, ⟨(some 61), none, (.mv (.t 60))⟩, ⟨(some 62), (some (61, false)), (.fld 0 (.t 3))⟩, ⟨(some 63), (some (61, false)), (.ld false 1 (.t 62))⟩, ⟨(some 64), (some (61, false)), (.lens (.t 63))⟩, ⟨(some 65), (some (61, false)), (.bin .gtr (.t 64) (.c (.int .i64 2000)))⟩, ⟨(some 66), none, (.pick (.t 61) (.c (.bool true)) (.t 65))⟩, ⟨(some 67), none, (.mv (.t 66))⟩, ⟨(some 68), (some (67, false)), (.fld 4 (.t 3))⟩, ⟨(some 69), (some (67, false)), (.ld false 1 (.t 68))⟩, ⟨(some 70), (some (67, false)), (.lens (.t 69))⟩, ⟨(some 71), (some (67, false)), (.bin .gtr (.t 70) (.c (.int .i64 2000)))⟩, ⟨(some 72), none, (.pick (.t 67) (.c (.bool true)) (.t 71))⟩, ⟨(some 73), none, (.mv (.t 72))⟩, ⟨(some 74), (some (73, false)), (.fld 27 (.t 1))⟩, ⟨(some 75), (some (73, false)), (.fld 0 (.t 74))⟩, ⟨(some 76), (some (73, false)), (.ld false 1 (.t 75))⟩, ⟨(some 77), (some (73, false)), (.lens (.t 76))⟩, ⟨(some 78), (some (73, false)), (.bin .gtr (.t 77) (.c (.int .i64 2000)))⟩, ⟨(some 79), none, (.pick (.t 73) (.c (.bool true)) (.t 78))⟩]) (.cond (.t 79) (.seq (.ops [⟨(some 2), none, (.mv (.c (.bool true)))⟩]) .ret) .skip)) (.seq (.seq (.ops [⟨(some 4), none, (.mv (.c (.int .i64 0)))⟩]) (.block 0 (.loop (.seq (.seq (.ops [⟨(some 80), none, (.mv (.t 4))⟩, ⟨(some 81), none, (.fld 5 (.t 3))⟩, ⟨(some 82), none, (.ld false 1 (.t 81))⟩, ⟨(some 83), none, (.len (.t 82))⟩, ⟨(some 84), none, (.bin .lss (.t 80) (.t 83))⟩]) (.cond (.t 84) .skip (.exit 0))) (.seq (.block 1 (.seq (.ops [⟨(some 87), none, (.fld 5 (.t 3))⟩, ⟨(some 88), none, (.ld false 1 (.t 87))⟩, ⟨(some 89), none, (.mv (.t 4))⟩, ⟨(some 90), none, (.ix 1 (.t 88) (.t 89))⟩, ⟨(some 91), none, (.ld false 1 (.t 90))⟩, ⟨(some 92), none, (.lens (.t 91))⟩, ⟨(some 93), none, (.bin .gtr (.t 92) (.c (.int .i64 2000)))⟩]) (.cond (.t 93) (.seq (.ops [⟨(some 2), none, (.mv (.c (.bool true)))⟩]) .ret) .skip))) (.ops [⟨(some 85), none, (.mv (.t 4))⟩, ⟨(some 86), none, (.bin .add (.t 85) (.c (.int .i64 1)))⟩, ⟨(some 4), none, (.mv (.t 86))⟩])))))) (.seq (.seq (.ops [⟨(some 5), none, (.mv (.c (.int .i64 0)))⟩]) (.block 2 (.loop (.seq (.seq (.ops [⟨(some 94), none, (.mv (.t 5))⟩, ⟨(some 95), none, (.fld 6 (.t 3))⟩, ⟨(some 96), none, (.ld false 1 (.t 95))⟩, ⟨(some 97), none, (.len (.t 96))⟩, ⟨(some 98), none, (.bin .lss (.t 94) (.t 97))⟩]) (.cond (.t 98) .skip (.exit 2))) (.seq (.block 3 (.seq (.ops [⟨(some 101), none, (.fld 6 (.t 3))⟩, ⟨(some 102), none, (.ld false 1 (.t 101))⟩, ⟨(some 103), none, (.mv (.t 5))⟩, ⟨(some 104), none, (.ix 1 (.t 102) (.t 103))⟩, ⟨(some 105), none, (.ld false 1 (.t 104))⟩, ⟨(some 106), none, (.lens (.t 105))⟩, ⟨(some 107), none, (.bin .gtr (.t 106) (.c (.int .i64 2000)))⟩]) (.cond (.t 107) (.seq (.ops [⟨(some 2), none, (.mv (.c (.bool true)))⟩]) .ret) .skip))) (.ops [⟨(some 99), none, (.mv (.t 5))⟩, ⟨(some 100), none, (.bin .add (.t 99) (.c (.int .i64 1)))⟩, ⟨(some 5), none, (.mv (.t 100))⟩])))))) (.seq (.seq (.ops [⟨(some 6), none, (.mv (.c (.int .i64 0)))⟩]) (.block 4 (.loop (.seq (.seq (.ops [⟨(some 108), none, (.mv (.t 6))⟩, ⟨(some 109), none, (.fld 7 (.t 3))⟩, ⟨(some 110), none, (.fld 0 (.t 109))⟩, ⟨(some 111), none, (.ld false 1 (.t 110))⟩, ⟨(some 112), none, (.len (.t 111))⟩, ⟨(some 113), none, (.bin .lss (.t 108) (.t 112))⟩]) (.cond (.t 113) .skip (.exit 4))) (.seq (.block 5 (.seq (.ops [⟨(some 116), none, (.fld 7 (.t 3))⟩, ⟨(some 117), none, (.fld 0 (.t 116))⟩, ⟨(some 118), none, (.ld false 1 (.t 117))⟩, ⟨(some 119), none, (.mv (.t 6))⟩, ⟨(some 120), none, (.ix 2 (.t 118) (.t 119))⟩, ⟨(some 121), none, (.fld 0 (.t 120))⟩, ⟨(some 122), none, (.ld false 1 (.t 121))⟩, ⟨(some 123), none, (.lens (.t 122))⟩, ⟨(some 124), none, (.bin .gtr (.t 123) (.c (.int .i64 2000)))⟩]) (.cond (.t 124) (.seq (.ops [⟨(some 2), none, (.mv (.c (.bool true)))⟩]) .ret) .skip))) (.ops [⟨(some 114), none, (.mv (.t 6))⟩, ⟨(some 115), none, (.bin .add (.t 114) (.c (.int .i64 1)))⟩, ⟨(some 6), none, (.mv (.t 115))⟩])))))) (.seq (.ops [⟨(some 2), none, (.mv (.c (.bool false)))⟩]) .ret))))))))
theorem tr22 : Tryz.f22.body.bind (trCode Tryz.prog) = some (strip ac22) := by kernel_rfl
theorem spec22 (e : Ev) : Spec Tryz.prog 22 [.fz (.agg (encEv e))] (.fz (.bool (longE e))) := by
  refine spec_at (n := 124) (ars := [(.t 2)]) (ac := ac22) Tryz.func22 (by kernel_rfl) (by kernel_rfl) tr22 (by kernel_rfl) ?_
  unfold ac22
  iterate 60 (all_goals (try (first
    | (with_reducible refine ite_in (fun _ => ?_) (fun _ => ?_))
    | (with_reducible refine ⟨fun _ => ?_, fun _ => ?_⟩)
    | (with_reducible refine And.intro ?_ ?_)
    | (with_reducible intro _)
    | (with_reducible exact is_in _)
    | ((with_reducible refine eq_in ?_); (first | exact dT (by omega) | (simp_all [longE]; done)); done)
    | (simp -implicitDefEqProofs only [SD, SF, SL, e_nf, reduceCtorEq, implies_true, ↓reduceIte, Nat.reduceEqDiff, Nat.reduceAdd, Nat.reduceMul, Nat.reduceSub, Nat.reduceLeDiff, Nat.reduceLT, Int.reduceLT, Int.reduceLE, Int.reduceEq, Int.reduceToNat, Int.reduceAdd, Int.reduceSub, Int.reduceNeg, Int.reduceBEq, Int.reduceBNe, Nat.reduceBEq, Int.cast_ofNat_Int, decide_true, decide_false, ne_eq, eq_self_iff_true, beq_eq_false_iff_ne, bne_iff_ne, List.replicate, encEv, *]))))
  refine loop_q (X := List (List UInt8) × List (List UInt8) × Unit) (fun n x => e.allow = x.1 ++ x.2.1 ∧ n = x.2.1.length ∧ (x.1.any (lenG 2000) = false)) (fun x => [(4, .int .i64 x.1.length)]) (fun _ => []) [2, 80, 81, 82, 83, 84, 85, 86, 87, 88, 89, 90, 91, 92, 93] []  (e.allow).length ([], e.allow, ()) ⟨rfl, rfl, by first | rfl | exact any_snoc hI1 (by first | (simp_all [lenG, lenU]; done) | (simp_all [lenG, lenU]; omega))⟩ ?_ ?_
  · simp -implicitDefEqProofs only [SD, SF, SL, e_nf, reduceCtorEq, implies_true, ↓reduceIte, Nat.reduceEqDiff, Nat.reduceAdd, Nat.reduceMul, Nat.reduceSub, Nat.reduceLeDiff, Nat.reduceLT, Int.reduceLT, Int.reduceLE, Int.reduceEq, Int.reduceToNat, Int.reduceAdd, Int.reduceSub, Int.reduceNeg, Int.reduceBEq, Int.reduceBNe, Nat.reduceBEq, Int.cast_ofNat_Int, decide_true, decide_false, ne_eq, eq_self_iff_true, beq_eq_false_iff_ne, bne_iff_ne, List.replicate, encEv] <;> simp
  · rintro n ⟨pre1, rest1, a1⟩ ⟨he1, rfl, hI1⟩
    dsimp only at he1 hI1
    cases rest1 with
    | nil =>
      obtain rfl : e.allow = pre1 := by simpa using he1
      clear he1
      have hlt1 : ¬ (((e.allow).length : Int) < ((e.allow).length : Int)) := Int.lt_irrefl _
      iterate 30 (all_goals (try (first
        | (with_reducible refine ite_in (fun _ => ?_) (fun _ => ?_))
        | (with_reducible refine ⟨fun _ => ?_, fun _ => ?_⟩)
        | (with_reducible refine And.intro ?_ ?_)
        | (with_reducible intro _)
        | (with_reducible exact is_in _)
        | ((with_reducible refine eq_in ?_); ((have hq := any_cut (p := lenG 2000) he1.out (by first | (simp_all [lenG, lenU]; done) | (simp_all [lenG, lenU]; omega)); simp [longE, hq]; done)); done)
        | (simp -implicitDefEqProofs only [SD, SF, SL, e_nf, reduceCtorEq, implies_true, ↓reduceIte, Nat.reduceEqDiff, Nat.reduceAdd, Nat.reduceMul, Nat.reduceSub, Nat.reduceLeDiff, Nat.reduceLT, Int.reduceLT, Int.reduceLE, Int.reduceEq, Int.reduceToNat, Int.reduceAdd, Int.reduceSub, Int.reduceNeg, Int.reduceBEq, Int.reduceBNe, Nat.reduceBEq, Int.cast_ofNat_Int, decide_true, decide_false, ne_eq, eq_self_iff_true, beq_eq_false_iff_ne, bne_iff_ne, List.replicate, encEv, *]))))
      refine loop_q (X := List (List UInt8) × List (List UInt8) × Unit) (fun n x => e.deny = x.1 ++ x.2.1 ∧ n = x.2.1.length ∧ (x.1.any (lenG 2000) = false)) (fun x => [(5, .int .i64 x.1.length)]) (fun _ => []) [2, 94, 95, 96, 97, 98, 99, 100, 101, 102, 103, 104, 105, 106, 107] []  (e.deny).length ([], e.deny, ()) ⟨rfl, rfl, by first | rfl | exact any_snoc hI2 (by first | (simp_all [lenG, lenU]; done) | (simp_all [lenG, lenU]; omega))⟩ ?_ ?_
      · simp -implicitDefEqProofs only [SD, SF, SL, e_nf, reduceCtorEq, implies_true, ↓reduceIte, Nat.reduceEqDiff, Nat.reduceAdd, Nat.reduceMul, Nat.reduceSub, Nat.reduceLeDiff, Nat.reduceLT, Int.reduceLT, Int.reduceLE, Int.reduceEq, Int.reduceToNat, Int.reduceAdd, Int.reduceSub, Int.reduceNeg, Int.reduceBEq, Int.reduceBNe, Nat.reduceBEq, Int.cast_ofNat_Int, decide_true, decide_false, ne_eq, eq_self_iff_true, beq_eq_false_iff_ne, bne_iff_ne, List.replicate, encEv] <;> simp
      · rintro n ⟨pre2, rest2, a2⟩ ⟨he2, rfl, hI2⟩
        dsimp only at he2 hI2
        cases rest2 with
        | nil =>
          obtain rfl : e.deny = pre2 := by simpa using he2
          clear he2
          have hlt2 : ¬ (((e.deny).length : Int) < ((e.deny).length : Int)) := Int.lt_irrefl _
          iterate 30 (all_goals (try (first
            | (with_reducible refine ite_in (fun _ => ?_) (fun _ => ?_))
            | (with_reducible refine ⟨fun _ => ?_, fun _ => ?_⟩)
            | (with_reducible refine And.intro ?_ ?_)
            | (with_reducible intro _)
            | (with_reducible exact is_in _)
            | ((with_reducible refine eq_in ?_); ((have hq := any_cut (p := lenG 2000) he2.out (by first | (simp_all [lenG, lenU]; done) | (simp_all [lenG, lenU]; omega)); simp [longE, hq]; done)); done)
            | (simp -implicitDefEqProofs only [SD, SF, SL, e_nf, reduceCtorEq, implies_true, ↓reduceIte, Nat.reduceEqDiff, Nat.reduceAdd, Nat.reduceMul, Nat.reduceSub, Nat.reduceLeDiff, Nat.reduceLT, Int.reduceLT, Int.reduceLE, Int.reduceEq, Int.reduceToNat, Int.reduceAdd, Int.reduceSub, Int.reduceNeg, Int.reduceBEq, Int.reduceBNe, Nat.reduceBEq, Int.cast_ofNat_Int, decide_true, decide_false, ne_eq, eq_self_iff_true, beq_eq_false_iff_ne, bne_iff_ne, List.replicate, encEv, *]))))
          refine loop_q (X := List LU × List LU × Unit) (fun n x => e.lv.users = x.1 ++ x.2.1 ∧ n = x.2.1.length ∧ (x.1.any (lenU) = false)) (fun x => [(6, .int .i64 x.1.length)]) (fun _ => []) [2, 108, 109, 110, 111, 112, 113, 114, 115, 116, 117, 118, 119, 120, 121, 122, 123, 124] []  (e.lv.users).length ([], e.lv.users, ()) ⟨rfl, rfl, by first | rfl | exact any_snoc hI3 (by first | (simp_all [lenG, lenU]; done) | (simp_all [lenG, lenU]; omega))⟩ ?_ ?_
          · simp -implicitDefEqProofs only [SD, SF, SL, e_nf, reduceCtorEq, implies_true, ↓reduceIte, Nat.reduceEqDiff, Nat.reduceAdd, Nat.reduceMul, Nat.reduceSub, Nat.reduceLeDiff, Nat.reduceLT, Int.reduceLT, Int.reduceLE, Int.reduceEq, Int.reduceToNat, Int.reduceAdd, Int.reduceSub, Int.reduceNeg, Int.reduceBEq, Int.reduceBNe, Nat.reduceBEq, Int.cast_ofNat_Int, decide_true, decide_false, ne_eq, eq_self_iff_true, beq_eq_false_iff_ne, bne_iff_ne, List.replicate, encEv] <;> simp
          · rintro n ⟨pre3, rest3, a3⟩ ⟨he3, rfl, hI3⟩
            dsimp only at he3 hI3
            cases rest3 with
            | nil =>
              obtain rfl : e.lv.users = pre3 := by simpa using he3
              clear he3
              have hlt3 : ¬ (((e.lv.users).length : Int) < ((e.lv.users).length : Int)) := Int.lt_irrefl _
              iterate 30 (all_goals (try (first
                | (with_reducible refine ite_in (fun _ => ?_) (fun _ => ?_))
                | (with_reducible refine ⟨fun _ => ?_, fun _ => ?_⟩)
                | (with_reducible refine And.intro ?_ ?_)
                | (with_reducible intro _)
                | (with_reducible exact is_in _)
                | ((with_reducible refine eq_in ?_); ((have hq := any_cut (p := lenU) he3.out (by first | (simp_all [lenG, lenU]; done) | (simp_all [lenG, lenU]; omega)); simp [longE, hq]; done)); done)
                | (simp -implicitDefEqProofs only [SD, SF, SL, e_nf, reduceCtorEq, implies_true, ↓reduceIte, Nat.reduceEqDiff, Nat.reduceAdd, Nat.reduceMul, Nat.reduceSub, Nat.reduceLeDiff, Nat.reduceLT, Int.reduceLT, Int.reduceLE, Int.reduceEq, Int.reduceToNat, Int.reduceAdd, Int.reduceSub, Int.reduceNeg, Int.reduceBEq, Int.reduceBNe, Nat.reduceBEq, Int.cast_ofNat_Int, decide_true, decide_false, ne_eq, eq_self_iff_true, beq_eq_false_iff_ne, bne_iff_ne, List.replicate, encEv, *]))))
              refine Eq.symm ?_
              unfold longE
              rw [hI1, hI2, hI3]
              simp only [Bool.or_false, decide_eq_false_iff_not]
              omega
            | cons x3 rest3 =>
              have hlt3 := cut_lt he3
              have hx3 := cutD encLU he3
              simp only [encLU] at hx3
              simp -implicitDefEqProofs only [SD, SF, SL, e_nf, reduceCtorEq, implies_true, ↓reduceIte, Nat.reduceEqDiff, Nat.reduceAdd, Nat.reduceMul, Nat.reduceSub, Nat.reduceLeDiff, Nat.reduceLT, Int.reduceLT, Int.reduceLE, Int.reduceEq, Int.reduceToNat, Int.reduceAdd, Int.reduceSub, Int.reduceNeg, Int.reduceBEq, Int.reduceBNe, Nat.reduceBEq, Int.cast_ofNat_Int, decide_true, decide_false, ne_eq, eq_self_iff_true, beq_eq_false_iff_ne, bne_iff_ne, List.replicate, encEv, hlt3]
              intro hl
              have hw3 := wrap_len (n := pre3.length) (m := (e.lv.users).length) (cut_lt' he3) (by simpa using hl)
              replace he3 := Hd.mk he3
              iterate 30 (all_goals (try (first
                | ((with_reducible refine back_in rest3.length [2, 108, 109, 110, 111, 112, 113, 114, 115, 116, 117, 118, 119, 120, 121, 122, 123, 124] [] (pre3 ++ [x3], rest3, a3) ?_ ⟨?_, ?_, ?_⟩ ?_)
                   · simp
                   · exact cut_snoc he3.out
                   · rfl
                   · first | rfl | exact any_snoc hI3 (by first | (simp_all [lenG, lenU]; done) | (simp_all [lenG, lenU]; omega))
                   · first | (simp -implicitDefEqProofs only [SD, SF, SL, e_nf, reduceCtorEq, implies_true, ↓reduceIte, Nat.reduceEqDiff, Nat.reduceAdd, Nat.reduceMul, Nat.reduceSub, Nat.reduceLeDiff, Nat.reduceLT, Int.reduceLT, Int.reduceLE, Int.reduceEq, Int.reduceToNat, Int.reduceAdd, Int.reduceSub, Int.reduceNeg, Int.reduceBEq, Int.reduceBNe, Nat.reduceBEq, Int.cast_ofNat_Int, decide_true, decide_false, ne_eq, eq_self_iff_true, beq_eq_false_iff_ne, bne_iff_ne, List.replicate, encEv] <;> simp <;> done) | (simp -implicitDefEqProofs only [SD, SF, SL, e_nf, reduceCtorEq, implies_true, ↓reduceIte, Nat.reduceEqDiff, Nat.reduceAdd, Nat.reduceMul, Nat.reduceSub, Nat.reduceLeDiff, Nat.reduceLT, Int.reduceLT, Int.reduceLE, Int.reduceEq, Int.reduceToNat, Int.reduceAdd, Int.reduceSub, Int.reduceNeg, Int.reduceBEq, Int.reduceBNe, Nat.reduceBEq, Int.cast_ofNat_Int, decide_true, decide_false, ne_eq, eq_self_iff_true, beq_eq_false_iff_ne, bne_iff_ne, List.replicate, encEv, *] <;> simp_all <;> done))
                | (with_reducible refine ite_in (fun _ => ?_) (fun _ => ?_))
                | (with_reducible refine ⟨fun _ => ?_, fun _ => ?_⟩)
                | (with_reducible refine And.intro ?_ ?_)
                | (with_reducible intro _)
                | (with_reducible exact is_in _)
                | ((with_reducible refine eq_in ?_); ((have hq := any_cut (p := lenU) he3.out (by first | (simp_all [lenG, lenU]; done) | (simp_all [lenG, lenU]; omega)); simp [longE, hq]; done)); done)
                | (simp -implicitDefEqProofs only [SD, SF, SL, e_nf, reduceCtorEq, implies_true, ↓reduceIte, Nat.reduceEqDiff, Nat.reduceAdd, Nat.reduceMul, Nat.reduceSub, Nat.reduceLeDiff, Nat.reduceLT, Int.reduceLT, Int.reduceLE, Int.reduceEq, Int.reduceToNat, Int.reduceAdd, Int.reduceSub, Int.reduceNeg, Int.reduceBEq, Int.reduceBNe, Nat.reduceBEq, Int.cast_ofNat_Int, decide_true, decide_false, ne_eq, eq_self_iff_true, beq_eq_false_iff_ne, bne_iff_ne, List.replicate, encEv, *]))))
        | cons x2 rest2 =>
          have hlt2 := cut_lt he2
          have hx2 := cutD encS he2
          simp only [encS] at hx2
          simp -implicitDefEqProofs only [SD, SF, SL, e_nf, reduceCtorEq, implies_true, ↓reduceIte, Nat.reduceEqDiff, Nat.reduceAdd, Nat.reduceMul, Nat.reduceSub, Nat.reduceLeDiff, Nat.reduceLT, Int.reduceLT, Int.reduceLE, Int.reduceEq, Int.reduceToNat, Int.reduceAdd, Int.reduceSub, Int.reduceNeg, Int.reduceBEq, Int.reduceBNe, Nat.reduceBEq, Int.cast_ofNat_Int, decide_true, decide_false, ne_eq, eq_self_iff_true, beq_eq_false_iff_ne, bne_iff_ne, List.replicate, encEv, hlt2]
          intro hl
          have hw2 := wrap_len (n := pre2.length) (m := (e.deny).length) (cut_lt' he2) (by simpa using hl)
          replace he2 := Hd.mk he2
          iterate 30 (all_goals (try (first
            | ((with_reducible refine back_in rest2.length [2, 94, 95, 96, 97, 98, 99, 100, 101, 102, 103, 104, 105, 106, 107] [] (pre2 ++ [x2], rest2, a2) ?_ ⟨?_, ?_, ?_⟩ ?_)
               · simp
               · exact cut_snoc he2.out
               · rfl
               · first | rfl | exact any_snoc hI2 (by first | (simp_all [lenG, lenU]; done) | (simp_all [lenG, lenU]; omega))
               · first | (simp -implicitDefEqProofs only [SD, SF, SL, e_nf, reduceCtorEq, implies_true, ↓reduceIte, Nat.reduceEqDiff, Nat.reduceAdd, Nat.reduceMul, Nat.reduceSub, Nat.reduceLeDiff, Nat.reduceLT, Int.reduceLT, Int.reduceLE, Int.reduceEq, Int.reduceToNat, Int.reduceAdd, Int.reduceSub, Int.reduceNeg, Int.reduceBEq, Int.reduceBNe, Nat.reduceBEq, Int.cast_ofNat_Int, decide_true, decide_false, ne_eq, eq_self_iff_true, beq_eq_false_iff_ne, bne_iff_ne, List.replicate, encEv] <;> simp <;> done) | (simp -implicitDefEqProofs only [SD, SF, SL, e_nf, reduceCtorEq, implies_true, ↓reduceIte, Nat.reduceEqDiff, Nat.reduceAdd, Nat.reduceMul, Nat.reduceSub, Nat.reduceLeDiff, Nat.reduceLT, Int.reduceLT, Int.reduceLE, Int.reduceEq, Int.reduceToNat, Int.reduceAdd, Int.reduceSub, Int.reduceNeg, Int.reduceBEq, Int.reduceBNe, Nat.reduceBEq, Int.cast_ofNat_Int, decide_true, decide_false, ne_eq, eq_self_iff_true, beq_eq_false_iff_ne, bne_iff_ne, List.replicate, encEv, *] <;> simp_all <;> done))
            | (with_reducible refine ite_in (fun _ => ?_) (fun _ => ?_))
            | (with_reducible refine ⟨fun _ => ?_, fun _ => ?_⟩)
            | (with_reducible refine And.intro ?_ ?_)
            | (with_reducible intro _)
            | (with_reducible exact is_in _)
            | ((with_reducible refine eq_in ?_); ((have hq := any_cut (p := lenG 2000) he2.out (by first | (simp_all [lenG, lenU]; done) | (simp_all [lenG, lenU]; omega)); simp [longE, hq]; done)); done)
            | (simp -implicitDefEqProofs only [SD, SF, SL, e_nf, reduceCtorEq, implies_true, ↓reduceIte, Nat.reduceEqDiff, Nat.reduceAdd, Nat.reduceMul, Nat.reduceSub, Nat.reduceLeDiff, Nat.reduceLT, Int.reduceLT, Int.reduceLE, Int.reduceEq, Int.reduceToNat, Int.reduceAdd, Int.reduceSub, Int.reduceNeg, Int.reduceBEq, Int.reduceBNe, Nat.reduceBEq, Int.cast_ofNat_Int, decide_true, decide_false, ne_eq, eq_self_iff_true, beq_eq_false_iff_ne, bne_iff_ne, List.replicate, encEv, *]))))
    | cons x1 rest1 =>
      have hlt1 := cut_lt he1
      have hx1 := cutD encS he1
      simp only [encS] at hx1
      simp -implicitDefEqProofs only [SD, SF, SL, e_nf, reduceCtorEq, implies_true, ↓reduceIte, Nat.reduceEqDiff, Nat.reduceAdd, Nat.reduceMul, Nat.reduceSub, Nat.reduceLeDiff, Nat.reduceLT, Int.reduceLT, Int.reduceLE, Int.reduceEq, Int.reduceToNat, Int.reduceAdd, Int.reduceSub, Int.reduceNeg, Int.reduceBEq, Int.reduceBNe, Nat.reduceBEq, Int.cast_ofNat_Int, decide_true, decide_false, ne_eq, eq_self_iff_true, beq_eq_false_iff_ne, bne_iff_ne, List.replicate, encEv, hlt1]
      intro hl
      have hw1 := wrap_len (n := pre1.length) (m := (e.allow).length) (cut_lt' he1) (by simpa using hl)
      replace he1 := Hd.mk he1
      iterate 30 (all_goals (try (first
        | ((with_reducible refine back_in rest1.length [2, 80, 81, 82, 83, 84, 85, 86, 87, 88, 89, 90, 91, 92, 93] [] (pre1 ++ [x1], rest1, a1) ?_ ⟨?_, ?_, ?_⟩ ?_)
           · simp
           · exact cut_snoc he1.out
           · rfl
           · first | rfl | exact any_snoc hI1 (by first | (simp_all [lenG, lenU]; done) | (simp_all [lenG, lenU]; omega))
           · first | (simp -implicitDefEqProofs only [SD, SF, SL, e_nf, reduceCtorEq, implies_true, ↓reduceIte, Nat.reduceEqDiff, Nat.reduceAdd, Nat.reduceMul, Nat.reduceSub, Nat.reduceLeDiff, Nat.reduceLT, Int.reduceLT, Int.reduceLE, Int.reduceEq, Int.reduceToNat, Int.reduceAdd, Int.reduceSub, Int.reduceNeg, Int.reduceBEq, Int.reduceBNe, Nat.reduceBEq, Int.cast_ofNat_Int, decide_true, decide_false, ne_eq, eq_self_iff_true, beq_eq_false_iff_ne, bne_iff_ne, List.replicate, encEv] <;> simp <;> done) | (simp -implicitDefEqProofs only [SD, SF, SL, e_nf, reduceCtorEq, implies_true, ↓reduceIte, Nat.reduceEqDiff, Nat.reduceAdd, Nat.reduceMul, Nat.reduceSub, Nat.reduceLeDiff, Nat.reduceLT, Int.reduceLT, Int.reduceLE, Int.reduceEq, Int.reduceToNat, Int.reduceAdd, Int.reduceSub, Int.reduceNeg, Int.reduceBEq, Int.reduceBNe, Nat.reduceBEq, Int.cast_ofNat_Int, decide_true, decide_false, ne_eq, eq_self_iff_true, beq_eq_false_iff_ne, bne_iff_ne, List.replicate, encEv, *] <;> simp_all <;> done))
        | (with_reducible refine ite_in (fun _ => ?_) (fun _ => ?_))
        | (with_reducible refine ⟨fun _ => ?_, fun _ => ?_⟩)
        | (with_reducible refine And.intro ?_ ?_)
        | (with_reducible intro _)
        | (with_reducible exact is_in _)
        | ((with_reducible refine eq_in ?_); ((have hq := any_cut (p := lenG 2000) he1.out (by first | (simp_all [lenG, lenU]; done) | (simp_all [lenG, lenU]; omega)); simp [longE, hq]; done)); done)
        | (simp -implicitDefEqProofs only [SD, SF, SL, e_nf, reduceCtorEq, implies_true, ↓reduceIte, Nat.reduceEqDiff, Nat.reduceAdd, Nat.reduceMul, Nat.reduceSub, Nat.reduceLeDiff, Nat.reduceLT, Int.reduceLT, Int.reduceLE, Int.reduceEq, Int.reduceToNat, Int.reduceAdd, Int.reduceSub, Int.reduceNeg, Int.reduceBEq, Int.reduceBNe, Nat.reduceBEq, Int.cast_ofNat_Int, decide_true, decide_false, ne_eq, eq_self_iff_true, beq_eq_false_iff_ne, bne_iff_ne, List.replicate, encEv, *]))))
def ac9 : AC := (.seq (.ops [⟨(some 4), none, (.mv (.c (.bool false)))⟩]) (.seq (.seq (.ops [⟨(some 6), none, (.mv (.t 0))⟩, ⟨(some 7), none, (.len (.t 6))⟩, ⟨(some 8), none, (.mv (.t 1))⟩, ⟨(some 9), none, (.bin .gtr (.t 7) (.t 8))⟩]) (.cond (.t 9) (.seq (.ops [⟨(some 4), none, (.mv (.c (.bool true)))⟩]) .ret) .skip)) (.seq (.seq (.ops [⟨(some 5), none, (.mv (.c (.int .i64 0)))⟩]) (.block 0 (.loop (.seq (.seq (.ops [⟨(some 10), none, (.mv (.t 5))⟩, ⟨(some 11), none, (.mv (.t 0))⟩, ⟨(some 12), none, (.len (.t 11))⟩, ⟨(some 13), none, (.bin .lss (.t 10) (.t 12))⟩]) (.cond (.t 13) .skip (.exit 0))) (.seq (.block 1 (.seq (.ops [⟨(some 16), none, (.mv (.t 0))⟩, ⟨(some 17), none, (.mv (.t 5))⟩, ⟨(some 18), none, (.ix 29 (.t 16) (.t 17))⟩, ⟨(some 19), none, (.ld true 29 (.t 18))⟩, ⟨(some 20), none, (.call false 22 [(.t 19)])⟩]) (.cond (.t 20) (.seq (.ops [⟨(some 4), none, (.mv (.c (.bool true)))⟩]) .ret) .skip))) (.ops [⟨(some 14), none, (.mv (.t 5))⟩, ⟨(some 15), none, (.bin .add (.t 14) (.c (.int .i64 1)))⟩, ⟨(some 5), none, (.mv (.t 15))⟩])))))) (.seq (.ops [⟨(some 4), none, (.mv (.c (.bool false)))⟩]) .ret))))
theorem tr9 : Tryz.f9.body.bind (trCode Tryz.prog) = some (strip ac9) := by kernel_rfl
theorem spec9 (es : List Ev) (n : Int) : Spec Tryz.prog 9 [.fz (.sl 29 (es.map encEv)), .fz (.int .i64 n)] (.fz (.bool (greatE es n))) := by
  refine spec_at (n := 19) (ars := [(.t 4)]) (ac := ac9) Tryz.func9 (by kernel_rfl) (by kernel_rfl) tr9 (by kernel_rfl) ?_
  unfold ac9
  by_cases hn : n < es.length
  · have hf : greatE es n = true := by simp [greatE, hn]
    iterate 30 (all_goals (try (first
      | (with_reducible refine ite_in (fun _ => ?_) (fun _ => ?_))
      | (with_reducible refine ⟨fun _ => ?_, fun _ => ?_⟩)
      | (with_reducible refine And.intro ?_ ?_)
      | (with_reducible intro _)
      | (with_reducible exact is_in _)
      | (simp -implicitDefEqProofs only [SD, SF, SL, e_nf, reduceCtorEq, implies_true, ↓reduceIte, Nat.reduceEqDiff, Nat.reduceAdd, Nat.reduceMul, Nat.reduceSub, Nat.reduceLeDiff, Nat.reduceLT, Int.reduceLT, Int.reduceLE, Int.reduceEq, Int.reduceToNat, Int.reduceAdd, Int.reduceSub, Int.reduceNeg, Int.reduceBEq, Int.reduceBNe, Nat.reduceBEq, Int.cast_ofNat_Int, decide_true, decide_false, ne_eq, eq_self_iff_true, beq_eq_false_iff_ne, bne_iff_ne, List.replicate, *]))))
    all_goals (simp_all)
  have hf : greatE es n = es.any longE := by simp [greatE, hn]
  iterate 8 (all_goals (try (first
    | (with_reducible refine ite_in (fun _ => ?_) (fun _ => ?_))
    | (with_reducible refine ⟨fun _ => ?_, fun _ => ?_⟩)
    | (with_reducible refine And.intro ?_ ?_)
    | (with_reducible intro _)
    | (with_reducible exact is_in _)
    | (simp -implicitDefEqProofs only [SD, SF, SL, e_nf, reduceCtorEq, implies_true, ↓reduceIte, Nat.reduceEqDiff, Nat.reduceAdd, Nat.reduceMul, Nat.reduceSub, Nat.reduceLeDiff, Nat.reduceLT, Int.reduceLT, Int.reduceLE, Int.reduceEq, Int.reduceToNat, Int.reduceAdd, Int.reduceSub, Int.reduceNeg, Int.reduceBEq, Int.reduceBNe, Nat.reduceBEq, Int.cast_ofNat_Int, decide_true, decide_false, ne_eq, eq_self_iff_true, beq_eq_false_iff_ne, bne_iff_ne, List.replicate, *]))))
  refine loop_q (X := List Ev × List Ev × Unit) (fun n x => es = x.1 ++ x.2.1 ∧ n = x.2.1.length ∧ (x.1.any longE = false)) (fun x => [(5, .int .i64 x.1.length)]) (fun _ => []) [4, 10, 11, 12, 13, 14, 15, 16, 17, 18, 19, 20] []  (es).length ([], es, ()) ⟨rfl, rfl, by first | rfl | exact any_snoc hI (by simp_all)⟩ ?_ ?_
  · simp -implicitDefEqProofs only [SD, SF, SL, e_nf, reduceCtorEq, implies_true, ↓reduceIte, Nat.reduceEqDiff, Nat.reduceAdd, Nat.reduceMul, Nat.reduceSub, Nat.reduceLeDiff, Nat.reduceLT, Int.reduceLT, Int.reduceLE, Int.reduceEq, Int.reduceToNat, Int.reduceAdd, Int.reduceSub, Int.reduceNeg, Int.reduceBEq, Int.reduceBNe, Nat.reduceBEq, Int.cast_ofNat_Int, decide_true, decide_false, ne_eq, eq_self_iff_true, beq_eq_false_iff_ne, bne_iff_ne, List.replicate] <;> simp
  · rintro n ⟨pre, rest, a⟩ ⟨he, rfl, hI⟩
    dsimp only at he hI
    cases rest with
    | nil =>
      obtain rfl : es = pre := by simpa using he
      clear he
      have hlt : ¬ (((es).length : Int) < ((es).length : Int)) := Int.lt_irrefl _
      iterate 30 (all_goals (try (first
        | ((with_reducible refine of_kSpec ?_)
           refine call_sub (ds' := [.agg (encEv x)]) (spec22 x) rfl ?_ ?_
           · simp -implicitDefEqProofs only [SD, SF, SL, e_nf, reduceCtorEq, implies_true, ↓reduceIte, Nat.reduceEqDiff, Nat.reduceAdd, Nat.reduceMul, Nat.reduceSub, Nat.reduceLeDiff, Nat.reduceLT, Int.reduceLT, Int.reduceLE, Int.reduceEq, Int.reduceToNat, Int.reduceAdd, Int.reduceSub, Int.reduceNeg, Int.reduceBEq, Int.reduceBNe, Nat.reduceBEq, Int.cast_ofNat_Int, decide_true, decide_false, ne_eq, eq_self_iff_true, beq_eq_false_iff_ne, bne_iff_ne, List.replicate, encEv, *]
             done)
        | (with_reducible refine ite_in (fun _ => ?_) (fun _ => ?_))
        | (with_reducible refine ⟨fun _ => ?_, fun _ => ?_⟩)
        | (with_reducible refine And.intro ?_ ?_)
        | (with_reducible intro _)
        | (with_reducible exact is_in _)
        | ((with_reducible refine eq_in ?_); (first | (rw [hf]; exact hI.symm) | (rw [hf]; exact (any_cut he.out (by assumption)).symm) | exact hI.symm | exact (any_cut he.out (by assumption)).symm); done)
        | (simp -implicitDefEqProofs only [SD, SF, SL, e_nf, reduceCtorEq, implies_true, ↓reduceIte, Nat.reduceEqDiff, Nat.reduceAdd, Nat.reduceMul, Nat.reduceSub, Nat.reduceLeDiff, Nat.reduceLT, Int.reduceLT, Int.reduceLE, Int.reduceEq, Int.reduceToNat, Int.reduceAdd, Int.reduceSub, Int.reduceNeg, Int.reduceBEq, Int.reduceBNe, Nat.reduceBEq, Int.cast_ofNat_Int, decide_true, decide_false, ne_eq, eq_self_iff_true, beq_eq_false_iff_ne, bne_iff_ne, List.replicate, *]))))

    | cons x rest =>
      have hlt := cut_lt he
      have hx := cutD encEv he
      simp only [encEv] at hx
      simp -implicitDefEqProofs only [SD, SF, SL, e_nf, reduceCtorEq, implies_true, ↓reduceIte, Nat.reduceEqDiff, Nat.reduceAdd, Nat.reduceMul, Nat.reduceSub, Nat.reduceLeDiff, Nat.reduceLT, Int.reduceLT, Int.reduceLE, Int.reduceEq, Int.reduceToNat, Int.reduceAdd, Int.reduceSub, Int.reduceNeg, Int.reduceBEq, Int.reduceBNe, Nat.reduceBEq, Int.cast_ofNat_Int, decide_true, decide_false, ne_eq, eq_self_iff_true, beq_eq_false_iff_ne, bne_iff_ne, List.replicate, hlt]
      intro hl
      have hw := wrap_len (n := pre.length) (m := (es).length) (cut_lt' he) (by simpa using hl)
      replace he := Hd.mk he
      iterate 30 (all_goals (try (first
        | ((with_reducible refine back_in rest.length [4, 10, 11, 12, 13, 14, 15, 16, 17, 18, 19, 20] [] (pre ++ [x], rest, a) ?_ ⟨?_, ?_, ?_⟩ ?_)
           · simp
           · exact cut_snoc he.out
           · rfl
           · first | rfl | exact any_snoc hI (by simp_all)
           · first | (simp -implicitDefEqProofs only [SD, SF, SL, e_nf, reduceCtorEq, implies_true, ↓reduceIte, Nat.reduceEqDiff, Nat.reduceAdd, Nat.reduceMul, Nat.reduceSub, Nat.reduceLeDiff, Nat.reduceLT, Int.reduceLT, Int.reduceLE, Int.reduceEq, Int.reduceToNat, Int.reduceAdd, Int.reduceSub, Int.reduceNeg, Int.reduceBEq, Int.reduceBNe, Nat.reduceBEq, Int.cast_ofNat_Int, decide_true, decide_false, ne_eq, eq_self_iff_true, beq_eq_false_iff_ne, bne_iff_ne, List.replicate] <;> simp <;> done) | (simp -implicitDefEqProofs only [SD, SF, SL, e_nf, reduceCtorEq, implies_true, ↓reduceIte, Nat.reduceEqDiff, Nat.reduceAdd, Nat.reduceMul, Nat.reduceSub, Nat.reduceLeDiff, Nat.reduceLT, Int.reduceLT, Int.reduceLE, Int.reduceEq, Int.reduceToNat, Int.reduceAdd, Int.reduceSub, Int.reduceNeg, Int.reduceBEq, Int.reduceBNe, Nat.reduceBEq, Int.cast_ofNat_Int, decide_true, decide_false, ne_eq, eq_self_iff_true, beq_eq_false_iff_ne, bne_iff_ne, List.replicate, *] <;> simp_all <;> done))
        | ((with_reducible refine of_kSpec ?_)
           refine call_sub (ds' := [.agg (encEv x)]) (spec22 x) rfl ?_ ?_
           · simp -implicitDefEqProofs only [SD, SF, SL, e_nf, reduceCtorEq, implies_true, ↓reduceIte, Nat.reduceEqDiff, Nat.reduceAdd, Nat.reduceMul, Nat.reduceSub, Nat.reduceLeDiff, Nat.reduceLT, Int.reduceLT, Int.reduceLE, Int.reduceEq, Int.reduceToNat, Int.reduceAdd, Int.reduceSub, Int.reduceNeg, Int.reduceBEq, Int.reduceBNe, Nat.reduceBEq, Int.cast_ofNat_Int, decide_true, decide_false, ne_eq, eq_self_iff_true, beq_eq_false_iff_ne, bne_iff_ne, List.replicate, encEv, *]
             done)
        | (with_reducible refine ite_in (fun _ => ?_) (fun _ => ?_))
        | (with_reducible refine ⟨fun _ => ?_, fun _ => ?_⟩)
        | (with_reducible refine And.intro ?_ ?_)
        | (with_reducible intro _)
        | (with_reducible exact is_in _)
        | ((with_reducible refine eq_in ?_); (first | (rw [hf]; exact hI.symm) | (rw [hf]; exact (any_cut he.out (by assumption)).symm) | exact hI.symm | exact (any_cut he.out (by assumption)).symm); done)
        | (simp -implicitDefEqProofs only [SD, SF, SL, e_nf, reduceCtorEq, implies_true, ↓reduceIte, Nat.reduceEqDiff, Nat.reduceAdd, Nat.reduceMul, Nat.reduceSub, Nat.reduceLeDiff, Nat.reduceLT, Int.reduceLT, Int.reduceLE, Int.reduceEq, Int.reduceToNat, Int.reduceAdd, Int.reduceSub, Int.reduceNeg, Int.reduceBEq, Int.reduceBNe, Nat.reduceBEq, Int.cast_ofNat_Int, decide_true, decide_false, ne_eq, eq_self_iff_true, beq_eq_false_iff_ne, bne_iff_ne, List.replicate, *]))))

end Go.Proofs.YtcolebkklojccaaGreat.E

namespace Go.Proofs.YtcolebkklojccaaGreat.E
open Go
set_option maxHeartbeats 4000000
set_option maxRecDepth 100000
set_option linter.unusedSimpArgs false
set_option linter.unusedVariables false
attribute [local congr] c_wp c_ops c_op c_opS c_run c_runS c_dt c_seq c_blk c_loop c_S c_put c_bind c_mv c_pick c_nt c_ng c_bin c_binI c_binS c_beq c_B c_eqa c_hd c_cells c_blkK c_box c_vec c_mp c_nck c_mks c_appn c_mkm c_mput c_mlk c_mrm c_take c_ld c_ldF c_cellsK c_st c_fld c_fldv c_ix c_ixp c_ixv c_ixs c_sub c_subs c_len c_lens c_src c_dst c_ow c_app c_ext c_mm c_conv c_str c_isn c_fill c_rows c_boxo c_frz c_frzO c_frzA c_frzV c_spec c_specO c_opsP c_opP c_runP c_specP c_Z c_qretP c_fz c_fn c_gv c_cond c_res1 c_resL c_ret c_qret c_ite c_unr c_nx c_bk c_cut c_is
attribute [local irreducible] dwp

theorem all_snoc' {α : Type} {p : α → Bool} {pre : List α} {x : α} (h : pre.all p = true) (hx : p x = true) : (pre ++ [x]).all p = true := by simp [h, hx]
theorem all_cut' {α : Type} {p : α → Bool} {es pre : List α} {x : α} {rest : List α} (h : es = pre ++ x :: rest) (hx : p x = false) : es.all p = false := by
  subst h
  simp [hx]
def longK (x : Ent) : Bool := decide (100 < x.key.length)
def greatS (l : List Ent) : Bool := decide (20 < l.length) || l.any longK
def okEnt (x : Ent) : Bool := stateB x.kind && decide (0 ≤ x.ident)
def chainB : Ent → List Ent → Bool
  | _, [] => true
  | a, b :: l => precB a b && chainB b l
def ordB : List Ent → Bool
  | [] => true
  | h :: t => chainB h t
def chkS (l : List Ent) : Int := if ordB l = false then 8 else if l.all okEnt = false then 1 else if 2000 < l.length then 7 else 0
theorem chkS8 {l : List Ent} (h : ordB l = false) : chkS l = 8 := by rw [chkS, if_pos h]
theorem chkS1 {l : List Ent} (h : ordB l = true) (h2 : l.all okEnt = false) : chkS l = 1 := by rw [chkS, if_neg (by simp [h]), if_pos h2]
theorem chkS7 {l : List Ent} (h : ordB l = true) (h2 : l.all okEnt = true) : chkS l = if 2000 < l.length then 7 else 0 := by rw [chkS, if_neg (by simp [h]), if_neg (by simp [h2])]
theorem chain_nil (a : Ent) : chainB a [] = true := rfl
theorem chain_cons (a b : Ent) (l : List Ent) : chainB a (b :: l) = (precB a b && chainB b l) := rfl
theorem last_at {l p : List Ent} {y : Ent} {rest : List Ent} (h : l = (p ++ [y]) ++ rest) : (l.map encEnt).getD p.length [] = [.int .i64 y.kind, .str y.key, .int .i64 y.ident] ∧ p.length < l.length := by
  subst h
  refine ⟨?_, by simp <;> omega⟩
  rw [List.append_assoc]
  exact cutD encEnt rfl
def acL10_1 : AC := (.loop (.seq (.seq (.ops [⟨(some 20), none, (.mv (.t 4))⟩, ⟨(some 21), none, (.mv (.t 0))⟩, ⟨(some 22), none, (.mv (.t 3))⟩, ⟨(some 23), none, (.ix 1 (.t 21) (.t 22))⟩, ⟨(some 24), none, (.ld false 1 (.t 23))⟩, ⟨(some 25), none, (.len (.t 24))⟩, ⟨(some 26), none, (.bin .lss (.t 20) (.t 25))⟩]) (.cond (.t 26) .skip (.exit 2))) (.seq (.block 3 (.seq (.ops [⟨(some 29), none, (.mv (.t 0))⟩, ⟨(some 30), none, (.mv (.t 3))⟩, ⟨(some 31), none, (.ix 1 (.t 29) (.t 30))⟩, ⟨(some 32), none, (.ld false 1 (.t 31))⟩, ⟨(some 33), none, (.mv (.t 4))⟩, ⟨(some 34), none, (.ix 3 (.t 32) (.t 33))⟩, ⟨(some 35), none, (.fld 1 (.t 34))⟩, ⟨(some 36), none, (.ld false 1 (.t 35))⟩, ⟨(some 37), none, (.lens (.t 36))⟩, ⟨(some 38), none, (.bin .gtr (.t 37) (.c (.int .i64 100)))⟩]) (.cond (.t 38) (.seq (.ops [⟨(some 2), none, (.mv (.c (.bool true)))⟩]) .ret) .skip))) (.ops [⟨(some 27), none, (.mv (.t 4))⟩, ⟨(some 28), none, (.bin .add (.t 27) (.c (.int .i64 1)))⟩, ⟨(some 4), none, (.mv (.t 28))⟩]))))
def ac10 : AC := (.seq (.ops [⟨(some 2), none, (.mv (.c (.bool false)))⟩]) (.seq (.seq (.ops [⟨(some 5), none, (.mv (.t 0))⟩, ⟨(some 6), none, (.len (.t 5))⟩, ⟨(some 7), none, (.bin .gtr (.t 6) (.c (.int .i64 4)))⟩]) (.cond (.t 7) (.seq (.ops [⟨(some 2), none, (.mv (.c (.bool true)))⟩]) .ret) .skip)) (.seq (.seq (.ops [⟨(some 3), none, (.mv (.c (.int .i64 0)))⟩]) (.block 0 (.loop (.seq (.seq (.ops [⟨(some 8), none, (.mv (.t 3))⟩, ⟨(some 9), none, (.mv (.t 0))⟩, ⟨(some 10), none, (.len (.t 9))⟩, ⟨(some 11), none, (.bin .lss (.t 8) (.t 10))⟩]) (.cond (.t 11) .skip (.exit 0))) (.seq (.block 1 (.seq (.seq (.ops [⟨(some 14), none, (.mv (.t 0))⟩, ⟨(some 15), none, (.mv (.t 3))⟩, ⟨(some 16), none, (.ix 1 (.t 14) (.t 15))⟩, ⟨(some 17), none, (.ld false 1 (.t 16))⟩, ⟨(some 18), none, (.len (.t 17))⟩, ⟨(some 19), none, (.bin .gtr (.t 18) (.c (.int .i64 20)))⟩]) (.cond (.t 19) (.seq (.ops [⟨(some 2), none, (.mv (.c (.bool true)))⟩]) .ret) .skip)) (.seq (.ops [⟨(some 4), none, (.mv (.c (.int .i64 0)))⟩]) (.block 2 acL10_1)))) (.ops [⟨(some 12), none, (.mv (.t 3))⟩, ⟨(some 13), none, (.bin .add (.t 12) (.c (.int .i64 1)))⟩, ⟨(some 3), none, (.mv (.t 13))⟩])))))) (.seq (.ops [⟨(some 2), none, (.mv (.c (.bool false)))⟩]) .ret))))
theorem tr10 : Tryz.f10.body.bind (trCode Tryz.prog) = some (strip ac10) := by kernel_rfl
theorem spec10 (l : List Ent) : Spec Tryz.prog 10 [.fz (.sl 1 [[.sl 3 (l.map encEnt)]])] (.fz (.bool (greatS l))) := by
  refine spec_at (n := 38) (ars := [(.t 2)]) (ac := ac10) Tryz.func10 (by kernel_rfl) (by kernel_rfl) tr10 (by kernel_rfl) ?_
  unfold ac10
  have hv1 : IntKind.i64.wrap 1 = 1 := by decide
  by_cases hn : 20 < l.length
  · have hf : greatS l = true := by simp [greatS, hn]
    have hn1 : (20 : Int) < l.length := by omega
    iterate 30 (all_goals (try (first
      | (with_reducible refine loop_u 2 ?_)
      | (with_reducible refine unr_next ?_)
      | (with_reducible refine ite_in (fun _ => ?_) (fun _ => ?_))
      | (with_reducible refine ⟨fun _ => ?_, fun _ => ?_⟩)
      | (with_reducible refine And.intro ?_ ?_)
      | (with_reducible intro _)
      | (with_reducible exact is_in _)
      | (simp -implicitDefEqProofs only [SD, SF, SL, e_nf, reduceCtorEq, implies_true, ↓reduceIte, Nat.reduceEqDiff, Nat.reduceAdd, Nat.reduceMul, Nat.reduceSub, Nat.reduceLeDiff, Nat.reduceLT, Int.reduceLT, Int.reduceLE, Int.reduceEq, Int.reduceToNat, Int.reduceAdd, Int.reduceSub, Int.reduceNeg, Int.reduceBEq, Int.reduceBNe, Nat.reduceBEq, Int.cast_ofNat_Int, decide_true, decide_false, ne_eq, eq_self_iff_true, beq_eq_false_iff_ne, bne_iff_ne, List.replicate, *]))))
    all_goals (simp_all)
  have hn1 : ¬ (20 : Int) < l.length := by omega
  have hf : greatS l = l.any longK := by simp [greatS, hn]
  iterate 12 (all_goals (try (first
    | (with_reducible refine loop_u 2 ?_)
    | (with_reducible refine unr_next ?_)
    | (with_reducible refine ite_in (fun _ => ?_) (fun _ => ?_))
    | (with_reducible refine ⟨fun _ => ?_, fun _ => ?_⟩)
    | (with_reducible refine And.intro ?_ ?_)
    | (with_reducible intro _)
    | (with_reducible exact is_in _)
    | (simp -implicitDefEqProofs only [SD, SF, SL, e_nf, reduceCtorEq, implies_true, ↓reduceIte, Nat.reduceEqDiff, Nat.reduceAdd, Nat.reduceMul, Nat.reduceSub, Nat.reduceLeDiff, Nat.reduceLT, Int.reduceLT, Int.reduceLE, Int.reduceEq, Int.reduceToNat, Int.reduceAdd, Int.reduceSub, Int.reduceNeg, Int.reduceBEq, Int.reduceBNe, Nat.reduceBEq, Int.cast_ofNat_Int, decide_true, decide_false, ne_eq, eq_self_iff_true, beq_eq_false_iff_ne, bne_iff_ne, List.replicate, *]))))
  unfold acL10_1
  refine loop_q (X := List Ent × List Ent × Unit) (fun n x => l = x.1 ++ x.2.1 ∧ n = x.2.1.length ∧ (x.1.any longK = false)) (fun x => [(4, .int .i64 x.1.length)]) (fun _ => []) [2, 20, 21, 22, 23, 24, 25, 26, 27, 28, 29, 30, 31, 32, 33, 34, 35, 36, 37, 38] []  (l).length ([], l, ()) ⟨rfl, rfl, by first | rfl | exact any_snoc hI (by first | (simp_all [longK]; done) | (simp_all [longK]; omega))⟩ ?_ ?_
  · simp -implicitDefEqProofs only [SD, SF, SL, e_nf, reduceCtorEq, implies_true, ↓reduceIte, Nat.reduceEqDiff, Nat.reduceAdd, Nat.reduceMul, Nat.reduceSub, Nat.reduceLeDiff, Nat.reduceLT, Int.reduceLT, Int.reduceLE, Int.reduceEq, Int.reduceToNat, Int.reduceAdd, Int.reduceSub, Int.reduceNeg, Int.reduceBEq, Int.reduceBNe, Nat.reduceBEq, Int.cast_ofNat_Int, decide_true, decide_false, ne_eq, eq_self_iff_true, beq_eq_false_iff_ne, bne_iff_ne, List.replicate, encEnt] <;> simp
  · rintro n ⟨pre, rest, a⟩ ⟨he, rfl, hI⟩
    dsimp only at he hI
    cases rest with
    | nil =>
      obtain rfl : l = pre := by simpa using he
      clear he
      have hlt : ¬ (((l).length : Int) < ((l).length : Int)) := Int.lt_irrefl _
      iterate 30 (all_goals (try (first
        | (with_reducible refine loop_u 2 ?_)
        | (with_reducible refine unr_next ?_)
        | (with_reducible refine ite_in (fun _ => ?_) (fun _ => ?_))
        | (with_reducible refine ⟨fun _ => ?_, fun _ => ?_⟩)
        | (with_reducible refine And.intro ?_ ?_)
        | (with_reducible intro _)
        | (with_reducible exact is_in _)
        | ((with_reducible refine eq_in ?_); ((have hq := any_cut (p := longK) he.out (by first | (simp_all [longK]; done) | (simp_all [longK]; omega)); first | exact hq.symm | (rw [hf]; exact hq.symm) | exact hI.symm | (rw [hf]; exact hI.symm))); done)
        | (simp -implicitDefEqProofs only [SD, SF, SL, e_nf, reduceCtorEq, implies_true, ↓reduceIte, Nat.reduceEqDiff, Nat.reduceAdd, Nat.reduceMul, Nat.reduceSub, Nat.reduceLeDiff, Nat.reduceLT, Int.reduceLT, Int.reduceLE, Int.reduceEq, Int.reduceToNat, Int.reduceAdd, Int.reduceSub, Int.reduceNeg, Int.reduceBEq, Int.reduceBNe, Nat.reduceBEq, Int.cast_ofNat_Int, decide_true, decide_false, ne_eq, eq_self_iff_true, beq_eq_false_iff_ne, bne_iff_ne, List.replicate, encEnt, *]))))
      all_goals (first | (rw [hf]; exact hI.symm) | (simp_all; done) | trace_state)

    | cons x rest =>
      have hlt := cut_lt he
      have hx := cutD encEnt he
      simp only [encEnt] at hx
      simp -implicitDefEqProofs only [SD, SF, SL, e_nf, reduceCtorEq, implies_true, ↓reduceIte, Nat.reduceEqDiff, Nat.reduceAdd, Nat.reduceMul, Nat.reduceSub, Nat.reduceLeDiff, Nat.reduceLT, Int.reduceLT, Int.reduceLE, Int.reduceEq, Int.reduceToNat, Int.reduceAdd, Int.reduceSub, Int.reduceNeg, Int.reduceBEq, Int.reduceBNe, Nat.reduceBEq, Int.cast_ofNat_Int, decide_true, decide_false, ne_eq, eq_self_iff_true, beq_eq_false_iff_ne, bne_iff_ne, List.replicate, encEnt, hlt]
      intro hl
      have hw := wrap_len (n := pre.length) (m := (l).length) (cut_lt' he) (by simpa using hl)
      replace he := Hd.mk he
      iterate 30 (all_goals (try (first
        | ((with_reducible refine back_in rest.length [2, 20, 21, 22, 23, 24, 25, 26, 27, 28, 29, 30, 31, 32, 33, 34, 35, 36, 37, 38] [] (pre ++ [x], rest, a) ?_ ⟨?_, ?_, ?_⟩ ?_)
           · simp
           · exact cut_snoc he.out
           · rfl
           · first | rfl | exact any_snoc hI (by first | (simp_all [longK]; done) | (simp_all [longK]; omega))
           · first | (simp -implicitDefEqProofs only [SD, SF, SL, e_nf, reduceCtorEq, implies_true, ↓reduceIte, Nat.reduceEqDiff, Nat.reduceAdd, Nat.reduceMul, Nat.reduceSub, Nat.reduceLeDiff, Nat.reduceLT, Int.reduceLT, Int.reduceLE, Int.reduceEq, Int.reduceToNat, Int.reduceAdd, Int.reduceSub, Int.reduceNeg, Int.reduceBEq, Int.reduceBNe, Nat.reduceBEq, Int.cast_ofNat_Int, decide_true, decide_false, ne_eq, eq_self_iff_true, beq_eq_false_iff_ne, bne_iff_ne, List.replicate, encEnt] <;> simp <;> done) | (simp -implicitDefEqProofs only [SD, SF, SL, e_nf, reduceCtorEq, implies_true, ↓reduceIte, Nat.reduceEqDiff, Nat.reduceAdd, Nat.reduceMul, Nat.reduceSub, Nat.reduceLeDiff, Nat.reduceLT, Int.reduceLT, Int.reduceLE, Int.reduceEq, Int.reduceToNat, Int.reduceAdd, Int.reduceSub, Int.reduceNeg, Int.reduceBEq, Int.reduceBNe, Nat.reduceBEq, Int.cast_ofNat_Int, decide_true, decide_false, ne_eq, eq_self_iff_true, beq_eq_false_iff_ne, bne_iff_ne, List.replicate, encEnt, *] <;> simp_all <;> done))
        | (with_reducible refine ite_in (fun _ => ?_) (fun _ => ?_))
        | (with_reducible refine ⟨fun _ => ?_, fun _ => ?_⟩)
        | (with_reducible refine And.intro ?_ ?_)
        | (with_reducible intro _)
        | (with_reducible exact is_in _)
        | ((with_reducible refine eq_in ?_); ((have hq := any_cut (p := longK) he.out (by first | (simp_all [longK]; done) | (simp_all [longK]; omega)); first | exact hq.symm | (rw [hf]; exact hq.symm) | exact hI.symm | (rw [hf]; exact hI.symm))); done)
        | (simp -implicitDefEqProofs only [SD, SF, SL, e_nf, reduceCtorEq, implies_true, ↓reduceIte, Nat.reduceEqDiff, Nat.reduceAdd, Nat.reduceMul, Nat.reduceSub, Nat.reduceLeDiff, Nat.reduceLT, Int.reduceLT, Int.reduceLE, Int.reduceEq, Int.reduceToNat, Int.reduceAdd, Int.reduceSub, Int.reduceNeg, Int.reduceBEq, Int.reduceBNe, Nat.reduceBEq, Int.cast_ofNat_Int, decide_true, decide_false, ne_eq, eq_self_iff_true, beq_eq_false_iff_ne, bne_iff_ne, List.replicate, encEnt, *]))))
def ac11 : AC := (.seq (.ops [⟨(some 2), none, (.mv (.c (.int .i64 0)))⟩]) (.seq (.seq (.ops [⟨(some 3), none, (.mv (.c (.int .i64 1)))⟩]) (.block 0 (.loop (.seq (.seq (.ops [⟨(some 5), none, (.mv (.t 3))⟩, ⟨(some 6), none, (.mv (.t 0))⟩, ⟨(some 7), none, (.len (.t 6))⟩, ⟨(some 8), none, (.bin .lss (.t 5) (.t 7))⟩]) (.cond (.t 8) .skip (.exit 0))) (.seq (.block 1 (.seq (.draw (.q false ⟨(some 11), none, (.mv (.t 0))⟩ (.q false ⟨(some 12), none, (.mv (.t 3))⟩ (.q false ⟨(some 13), none, (.bin .sub (.t 12) (.c (.int .i64 1)))⟩ (.q false ⟨(some 14), none, (.ix 3 (.t 11) (.t 13))⟩ (.q false ⟨(some 15), none, (.fld 0 (.t 14))⟩ (.q false ⟨(some 16), none, (.ld false 1 (.t 15))⟩ (.q false ⟨(some 17), none, (.mv (.t 0))⟩ (.q false ⟨(some 18), none, (.mv (.t 3))⟩ (.q false ⟨(some 19), none, (.bin .sub (.t 18) (.c (.int .i64 1)))⟩ (.q false ⟨(some 20), none, (.ix 3 (.t 17) (.t 19))⟩ (.q false ⟨(some 21), none, (.fld 1 (.t 20))⟩ (.q false ⟨(some 22), none, (.ld false 1 (.t 21))⟩ (.q false ⟨(some 23), none, (.mv (.t 0))⟩ (.q false ⟨(some 24), none, (.mv (.t 3))⟩ (.q false ⟨(some 25), none, (.ix 3 (.t 23) (.t 24))⟩ (.q false ⟨(some 26), none, (.fld 0 (.t 25))⟩ (.q false ⟨(some 27), none, (.ld false 1 (.t 26))⟩ (.q false ⟨(some 28), none, (.mv (.t 0))⟩ (.q false ⟨(some 29), none, (.mv (.t 3))⟩ (.q false ⟨(some 30), none, (.ix 3 (.t 28) (.t 29))⟩ (.q false ⟨(some 31), none, (.fld 1 (.t 30))⟩ (.q false ⟨(some 32), none, (.ld false 1 (.t 31))⟩ (.op ⟨(some 33), none, (.call false 23 [(.t 16), (.t 22), (.t 27), (.t 32)])⟩ (.q false ⟨(some 34), none, (.nt (.t 33))⟩ .nil))))))))))))))))))))))))) (.cond (.t 34) (.seq (.ops [⟨(some 2), none, (.mv (.c (.int .i64 8)))⟩]) .ret) .skip))) (.ops [⟨(some 9), none, (.mv (.t 3))⟩, ⟨(some 10), none, (.bin .add (.t 9) (.c (.int .i64 1)))⟩, ⟨(some 3), none, (.mv (.t 10))⟩])))))) (.seq (.seq (.ops [⟨(some 4), none, (.mv (.c (.int .i64 0)))⟩]) (.block 2 (.loop (.seq (.seq (.ops [⟨(some 35), none, (.mv (.t 4))⟩, ⟨(some 36), none, (.mv (.t 0))⟩, ⟨(some 37), none, (.len (.t 36))⟩, ⟨(some 38), none, (.bin .lss (.t 35) (.t 37))⟩]) (.cond (.t 38) .skip (.exit 2))) (.seq (.block 3 (.seq (.ops [⟨(some 41), none, (.mv (.t 0))⟩, ⟨(some 42), none, (.mv (.t 4))⟩, ⟨(some 43), none, (.ix 3 (.t 41) (.t 42))⟩, ⟨(some 44), none, (.fld 0 (.t 43))⟩, ⟨(some 45), none, (.ld false 1 (.t 44))⟩, ⟨(some 46), none, (.call false 24 [(.t 45)])⟩, ⟨(some 47), none, (.nt (.t 46))⟩, ⟨(some 48), none, (.mv (.t 47))⟩, ⟨(some 49), (some (48, false)), (.mv (.t 0))⟩, ⟨(some 50), (some (48, false)), (.mv (.t 4))⟩, ⟨(some 51), (some (48, false)), (.ix 3 (.t 49) (.t 50))⟩, ⟨(some 52), (some (48, false)), (.fld 2 (.t 51))⟩, ⟨(some 53), (some (48, false)), (.ld false 1 (.t 52))⟩, ⟨(some 54), (some (48, false)), (.bin .lss (.t 53) (.c (.int .i64 0)))⟩, ⟨(some 55), none, (.pick (.t 48) (.c (.bool true)) (.t 54))⟩]) (.cond (.t 55) (.seq (.ops [⟨(some 2), none, (.mv (.c (.int .i64 1)))⟩]) .ret) .skip))) (.ops [⟨(some 39), none, (.mv (.t 4))⟩, ⟨(some 40), none, (.bin .add (.t 39) (.c (.int .i64 1)))⟩, ⟨(some 4), none, (.mv (.t 40))⟩])))))) (.seq (.seq (.ops [⟨(some 56), none, (.mv (.t 0))⟩, ⟨(some 57), none, (.len (.t 56))⟩, ⟨(some 58), none, (.bin .gtr (.t 57) (.c (.int .i64 2000)))⟩]) (.cond (.t 58) (.seq (.ops [⟨(some 2), none, (.mv (.c (.int .i64 7)))⟩]) .ret) .skip)) (.seq (.ops [⟨(some 2), none, (.mv (.c (.int .i64 0)))⟩]) .ret)))))
theorem tr11 : Tryz.f11.body.bind (trCode Tryz.prog) = some (strip ac11) := by kernel_rfl
theorem spec11 (l : List Ent) (hl0 : l.length ≤ 1000) : Spec Tryz.prog 11 [.fz (.sl 3 (l.map encEnt))] (.fz (.int .i64 (chkS l))) := by
  refine spec_at (n := 58) (ars := [(.t 2)]) (ac := ac11) Tryz.func11 (by kernel_rfl) (by kernel_rfl) tr11 (by kernel_rfl) ?_
  unfold ac11
  rcases hll : l with _ | ⟨h0, t0⟩
  · have hq : chkS [] = 0 := rfl
    clear hll
    iterate 30 (all_goals (try (first
      | (with_reducible refine loop_u 2 ?_)
      | (with_reducible refine unr_next ?_)
      | (with_reducible refine ite_in (fun _ => ?_) (fun _ => ?_))
      | (with_reducible refine ⟨fun _ => ?_, fun _ => ?_⟩)
      | (with_reducible refine And.intro ?_ ?_)
      | (with_reducible intro _)
      | (with_reducible exact is_in _)
      | (simp -implicitDefEqProofs only [SD, SF, SL, e_nf, reduceCtorEq, implies_true, ↓reduceIte, Nat.reduceEqDiff, Nat.reduceAdd, Nat.reduceMul, Nat.reduceSub, Nat.reduceLeDiff, Nat.reduceLT, Int.reduceLT, Int.reduceLE, Int.reduceEq, Int.reduceToNat, Int.reduceAdd, Int.reduceSub, Int.reduceNeg, Int.reduceBEq, Int.reduceBNe, Nat.reduceBEq, Int.cast_ofNat_Int, decide_true, decide_false, ne_eq, eq_self_iff_true, beq_eq_false_iff_ne, bne_iff_ne, List.replicate, *]))))
    all_goals (first | (simp_all; done) | trace_state)
  rw [← hll]
  have he0 := Hd.mk hll
  clear hll
  have hlm : l.length ≤ maxLen := by simp only [maxLen]; omega
  iterate 6 (all_goals (try (first
    | (with_reducible refine ite_in (fun _ => ?_) (fun _ => ?_))
    | (with_reducible refine ⟨fun _ => ?_, fun _ => ?_⟩)
    | (with_reducible refine And.intro ?_ ?_)
    | (with_reducible intro _)
    | (with_reducible exact is_in _)
    | (simp -implicitDefEqProofs only [SD, SF, SL, e_nf, reduceCtorEq, implies_true, ↓reduceIte, Nat.reduceEqDiff, Nat.reduceAdd, Nat.reduceMul, Nat.reduceSub, Nat.reduceLeDiff, Nat.reduceLT, Int.reduceLT, Int.reduceLE, Int.reduceEq, Int.reduceToNat, Int.reduceAdd, Int.reduceSub, Int.reduceNeg, Int.reduceBEq, Int.reduceBNe, Nat.reduceBEq, Int.cast_ofNat_Int, decide_true, decide_false, ne_eq, eq_self_iff_true, beq_eq_false_iff_ne, bne_iff_ne, List.replicate, *]))))
  refine loop_q (X := List Ent × List Ent × Ent) (fun n x => l = x.1 ++ x.2.1 ∧ n = x.2.1.length ∧ ((∃ p, x.1 = p ++ [x.2.2]) ∧ ordB l = chainB x.2.2 x.2.1)) (fun x => [(3, .int .i64 x.1.length)]) (fun _ => []) [2, 5, 6, 7, 8, 9, 10, 11, 12, 13, 14, 15, 16, 17, 18, 19, 20, 21, 22, 23, 24, 25, 26, 27, 28, 29, 30, 31, 32, 33, 34] []  t0.length ([h0], t0, h0) ⟨he0.out, rfl, by exact ⟨⟨[], rfl⟩, by rw [he0.out]; rfl⟩⟩ ?_ ?_
  · simp -implicitDefEqProofs only [SD, SF, SL, e_nf, reduceCtorEq, implies_true, ↓reduceIte, Nat.reduceEqDiff, Nat.reduceAdd, Nat.reduceMul, Nat.reduceSub, Nat.reduceLeDiff, Nat.reduceLT, Int.reduceLT, Int.reduceLE, Int.reduceEq, Int.reduceToNat, Int.reduceAdd, Int.reduceSub, Int.reduceNeg, Int.reduceBEq, Int.reduceBNe, Nat.reduceBEq, Int.cast_ofNat_Int, decide_true, decide_false, ne_eq, eq_self_iff_true, beq_eq_false_iff_ne, bne_iff_ne, List.replicate, encEnt] <;> simp
  · rintro n ⟨pre, rest, a⟩ ⟨he, rfl, hI⟩
    dsimp only at he hI
    cases rest with
    | nil =>
      obtain rfl : l = pre := by simpa using he
      clear he
      have hlt : ¬ (((l).length : Int) < ((l).length : Int)) := Int.lt_irrefl _
      have ho := hI.2
      rw [chain_nil] at ho
      clear hI
      iterate 30 (all_goals (try (first
        | ((with_reducible refine of_kSpec ?_)
           refine call_sub (ds' := [.int .i64 a.kind, .str a.key, .int .i64 x.kind, .str x.key]) (spec23 a.kind a.key x.kind x.key) rfl ?_ ?_
           · simp -implicitDefEqProofs only [SD, SF, SL, e_nf, reduceCtorEq, implies_true, ↓reduceIte, Nat.reduceEqDiff, Nat.reduceAdd, Nat.reduceMul, Nat.reduceSub, Nat.reduceLeDiff, Nat.reduceLT, Int.reduceLT, Int.reduceLE, Int.reduceEq, Int.reduceToNat, Int.reduceAdd, Int.reduceSub, Int.reduceNeg, Int.reduceBEq, Int.reduceBNe, Nat.reduceBEq, Int.cast_ofNat_Int, decide_true, decide_false, ne_eq, eq_self_iff_true, beq_eq_false_iff_ne, bne_iff_ne, List.replicate, *]
             done)
        | (with_reducible refine ite_in (fun _ => ?_) (fun _ => ?_))
        | (with_reducible refine ⟨fun _ => ?_, fun _ => ?_⟩)
        | (with_reducible refine And.intro ?_ ?_)
        | (with_reducible intro _)
        | (with_reducible exact is_in _)
        | ((with_reducible refine eq_in ?_); ((rw [chkS8 ho.out]; done)); done)
        | (simp -implicitDefEqProofs only [SD, SF, SL, e_nf, reduceCtorEq, implies_true, ↓reduceIte, Nat.reduceEqDiff, Nat.reduceAdd, Nat.reduceMul, Nat.reduceSub, Nat.reduceLeDiff, Nat.reduceLT, Int.reduceLT, Int.reduceLE, Int.reduceEq, Int.reduceToNat, Int.reduceAdd, Int.reduceSub, Int.reduceNeg, Int.reduceBEq, Int.reduceBNe, Nat.reduceBEq, Int.cast_ofNat_Int, decide_true, decide_false, ne_eq, eq_self_iff_true, beq_eq_false_iff_ne, bne_iff_ne, List.replicate, encEnt, *]))))
      refine loop_q (X := List Ent × List Ent × Unit) (fun n x => l = x.1 ++ x.2.1 ∧ n = x.2.1.length ∧ (x.1.all okEnt = true)) (fun x => [(4, .int .i64 x.1.length)]) (fun _ => []) [2, 35, 36, 37, 38, 39, 40, 41, 42, 43, 44, 45, 46, 47, 48, 49, 50, 51, 52, 53, 54, 55] []  (l).length ([], l, ()) ⟨rfl, rfl, by first | rfl | exact all_snoc' hI2 (by first | (simp_all [okEnt]; done) | (simp_all [okEnt]; omega))⟩ ?_ ?_
      · simp -implicitDefEqProofs only [SD, SF, SL, e_nf, reduceCtorEq, implies_true, ↓reduceIte, Nat.reduceEqDiff, Nat.reduceAdd, Nat.reduceMul, Nat.reduceSub, Nat.reduceLeDiff, Nat.reduceLT, Int.reduceLT, Int.reduceLE, Int.reduceEq, Int.reduceToNat, Int.reduceAdd, Int.reduceSub, Int.reduceNeg, Int.reduceBEq, Int.reduceBNe, Nat.reduceBEq, Int.cast_ofNat_Int, decide_true, decide_false, ne_eq, eq_self_iff_true, beq_eq_false_iff_ne, bne_iff_ne, List.replicate, encEnt] <;> simp
      · rintro n ⟨pre2, rest2, a2⟩ ⟨he2, rfl, hI2⟩
        dsimp only at he2 hI2
        cases rest2 with
        | nil =>
          obtain rfl : l = pre2 := by simpa using he2
          clear he2
          have hlt2 : ¬ (((l).length : Int) < ((l).length : Int)) := Int.lt_irrefl _
          have hq := chkS7 ho hI2
          iterate 30 (all_goals (try (first
            | ((with_reducible refine of_kSpec ?_); refine call_fz (spec24 x2.kind) rfl ?_)
            | (with_reducible refine ite_in (fun _ => ?_) (fun _ => ?_))
            | (with_reducible refine ⟨fun _ => ?_, fun _ => ?_⟩)
            | (with_reducible refine And.intro ?_ ?_)
            | (with_reducible intro _)
            | (with_reducible exact is_in _)
            | ((with_reducible refine eq_in ?_); ((have hq := chkS1 ho (all_cut' (p := okEnt) he2.out (by first | (simp_all [okEnt]; done) | (simp_all [okEnt]; omega))); rw [hq]; done)); done)
            | (simp -implicitDefEqProofs only [SD, SF, SL, e_nf, reduceCtorEq, implies_true, ↓reduceIte, Nat.reduceEqDiff, Nat.reduceAdd, Nat.reduceMul, Nat.reduceSub, Nat.reduceLeDiff, Nat.reduceLT, Int.reduceLT, Int.reduceLE, Int.reduceEq, Int.reduceToNat, Int.reduceAdd, Int.reduceSub, Int.reduceNeg, Int.reduceBEq, Int.reduceBNe, Nat.reduceBEq, Int.cast_ofNat_Int, decide_true, decide_false, ne_eq, eq_self_iff_true, beq_eq_false_iff_ne, bne_iff_ne, List.replicate, encEnt, *]))))
          all_goals (first | (rw [if_pos (by omega)]; done) | (rw [if_neg (by omega)]; done) | (rw [hq]; first | (rw [if_pos (by omega)]; done) | (rw [if_neg (by omega)]; done)) | (simp_all; done) | trace_state)

        | cons x2 rest2 =>
          have hlt2 := cut_lt he2
          have hx2 := cutD encEnt he2
          simp only [encEnt] at hx2
          simp -implicitDefEqProofs only [SD, SF, SL, e_nf, reduceCtorEq, implies_true, ↓reduceIte, Nat.reduceEqDiff, Nat.reduceAdd, Nat.reduceMul, Nat.reduceSub, Nat.reduceLeDiff, Nat.reduceLT, Int.reduceLT, Int.reduceLE, Int.reduceEq, Int.reduceToNat, Int.reduceAdd, Int.reduceSub, Int.reduceNeg, Int.reduceBEq, Int.reduceBNe, Nat.reduceBEq, Int.cast_ofNat_Int, decide_true, decide_false, ne_eq, eq_self_iff_true, beq_eq_false_iff_ne, bne_iff_ne, List.replicate, encEnt, hlt2]
          intro hl
          have hw2 := wrap_len (n := pre2.length) (m := (l).length) (cut_lt' he2) hlm
          replace he2 := Hd.mk he2
          iterate 30 (all_goals (try (first
            | ((with_reducible refine back_in rest2.length [2, 35, 36, 37, 38, 39, 40, 41, 42, 43, 44, 45, 46, 47, 48, 49, 50, 51, 52, 53, 54, 55] [] (pre2 ++ [x2], rest2, a2) ?_ ⟨?_, ?_, ?_⟩ ?_)
               · simp
               · exact cut_snoc he2.out
               · rfl
               · first | rfl | exact all_snoc' hI2 (by first | (simp_all [okEnt]; done) | (simp_all [okEnt]; omega))
               · first | (simp -implicitDefEqProofs only [SD, SF, SL, e_nf, reduceCtorEq, implies_true, ↓reduceIte, Nat.reduceEqDiff, Nat.reduceAdd, Nat.reduceMul, Nat.reduceSub, Nat.reduceLeDiff, Nat.reduceLT, Int.reduceLT, Int.reduceLE, Int.reduceEq, Int.reduceToNat, Int.reduceAdd, Int.reduceSub, Int.reduceNeg, Int.reduceBEq, Int.reduceBNe, Nat.reduceBEq, Int.cast_ofNat_Int, decide_true, decide_false, ne_eq, eq_self_iff_true, beq_eq_false_iff_ne, bne_iff_ne, List.replicate, encEnt] <;> simp <;> done) | (simp -implicitDefEqProofs only [SD, SF, SL, e_nf, reduceCtorEq, implies_true, ↓reduceIte, Nat.reduceEqDiff, Nat.reduceAdd, Nat.reduceMul, Nat.reduceSub, Nat.reduceLeDiff, Nat.reduceLT, Int.reduceLT, Int.reduceLE, Int.reduceEq, Int.reduceToNat, Int.reduceAdd, Int.reduceSub, Int.reduceNeg, Int.reduceBEq, Int.reduceBNe, Nat.reduceBEq, Int.cast_ofNat_Int, decide_true, decide_false, ne_eq, eq_self_iff_true, beq_eq_false_iff_ne, bne_iff_ne, List.replicate, encEnt, *] <;> simp_all <;> done))
            | ((with_reducible refine of_kSpec ?_); refine call_fz (spec24 x2.kind) rfl ?_)
            | (with_reducible refine ite_in (fun _ => ?_) (fun _ => ?_))
            | (with_reducible refine ⟨fun _ => ?_, fun _ => ?_⟩)
            | (with_reducible refine And.intro ?_ ?_)
            | (with_reducible intro _)
            | (with_reducible exact is_in _)
            | ((with_reducible refine eq_in ?_); ((have hq := chkS1 ho (all_cut' (p := okEnt) he2.out (by first | (simp_all [okEnt]; done) | (simp_all [okEnt]; omega))); rw [hq]; done)); done)
            | (simp -implicitDefEqProofs only [SD, SF, SL, e_nf, reduceCtorEq, implies_true, ↓reduceIte, Nat.reduceEqDiff, Nat.reduceAdd, Nat.reduceMul, Nat.reduceSub, Nat.reduceLeDiff, Nat.reduceLT, Int.reduceLT, Int.reduceLE, Int.reduceEq, Int.reduceToNat, Int.reduceAdd, Int.reduceSub, Int.reduceNeg, Int.reduceBEq, Int.reduceBNe, Nat.reduceBEq, Int.cast_ofNat_Int, decide_true, decide_false, ne_eq, eq_self_iff_true, beq_eq_false_iff_ne, bne_iff_ne, List.replicate, encEnt, *]))))
    | cons x rest =>
      have hlt := cut_lt he
      have hx := cutD encEnt he
      simp only [encEnt] at hx
      simp -implicitDefEqProofs only [SD, SF, SL, e_nf, reduceCtorEq, implies_true, ↓reduceIte, Nat.reduceEqDiff, Nat.reduceAdd, Nat.reduceMul, Nat.reduceSub, Nat.reduceLeDiff, Nat.reduceLT, Int.reduceLT, Int.reduceLE, Int.reduceEq, Int.reduceToNat, Int.reduceAdd, Int.reduceSub, Int.reduceNeg, Int.reduceBEq, Int.reduceBNe, Nat.reduceBEq, Int.cast_ofNat_Int, decide_true, decide_false, ne_eq, eq_self_iff_true, beq_eq_false_iff_ne, bne_iff_ne, List.replicate, encEnt, hlt]
      intro hl
      have hw := wrap_len (n := pre.length) (m := (l).length) (cut_lt' he) hlm
      replace he := Hd.mk he
      obtain ⟨⟨p, hpp⟩, ho⟩ := hI
      obtain ⟨hy, hylt⟩ := last_at (p := p) (y := a) (rest := x :: rest) (hpp ▸ he.out)
      have hpl : pre.length = p.length + 1 := by rw [hpp]; simp
      have hw0 : IntKind.i64.wrap ((pre.length : Int) - 1) = ((p.length : Nat) : Int) := by
        have := cut_lt' he.out
        simp only [maxLen] at hlm
        rw [wrap_in (by omega) (by omega)]
        omega
      have hylt' : ((p.length : Nat) : Int) < (l.length : Int) := by omega
      rw [chain_cons] at ho
      have hpe : precB ⟨a.kind, a.key, 0⟩ ⟨x.kind, x.key, 0⟩ = precB a x := rfl
      replace hpl := Hd.mk hpl
      replace hpp := Hd.mk hpp
      cases hpx : precB a x
      all_goals rw [hpx] at hpe ho
      all_goals simp only [Bool.false_and, Bool.true_and] at ho
      all_goals replace ho := Hd.mk ho
      iterate 30 (all_goals (try (first
        | ((with_reducible refine back_in rest.length [2, 5, 6, 7, 8, 9, 10, 11, 12, 13, 14, 15, 16, 17, 18, 19, 20, 21, 22, 23, 24, 25, 26, 27, 28, 29, 30, 31, 32, 33, 34] [] (pre ++ [x], rest, x) ?_ ⟨?_, ?_, ?_⟩ ?_)
           · simp
           · exact cut_snoc he.out
           · rfl
           · exact ⟨⟨pre, rfl⟩, ho.out⟩
           · first | (simp -implicitDefEqProofs only [SD, SF, SL, e_nf, reduceCtorEq, implies_true, ↓reduceIte, Nat.reduceEqDiff, Nat.reduceAdd, Nat.reduceMul, Nat.reduceSub, Nat.reduceLeDiff, Nat.reduceLT, Int.reduceLT, Int.reduceLE, Int.reduceEq, Int.reduceToNat, Int.reduceAdd, Int.reduceSub, Int.reduceNeg, Int.reduceBEq, Int.reduceBNe, Nat.reduceBEq, Int.cast_ofNat_Int, decide_true, decide_false, ne_eq, eq_self_iff_true, beq_eq_false_iff_ne, bne_iff_ne, List.replicate, encEnt] <;> simp <;> done) | (simp -implicitDefEqProofs only [SD, SF, SL, e_nf, reduceCtorEq, implies_true, ↓reduceIte, Nat.reduceEqDiff, Nat.reduceAdd, Nat.reduceMul, Nat.reduceSub, Nat.reduceLeDiff, Nat.reduceLT, Int.reduceLT, Int.reduceLE, Int.reduceEq, Int.reduceToNat, Int.reduceAdd, Int.reduceSub, Int.reduceNeg, Int.reduceBEq, Int.reduceBNe, Nat.reduceBEq, Int.cast_ofNat_Int, decide_true, decide_false, ne_eq, eq_self_iff_true, beq_eq_false_iff_ne, bne_iff_ne, List.replicate, encEnt, *] <;> simp_all <;> done))
        | ((with_reducible refine of_kSpec ?_)
           refine call_sub (ds' := [.int .i64 a.kind, .str a.key, .int .i64 x.kind, .str x.key]) (spec23 a.kind a.key x.kind x.key) rfl ?_ ?_
           · simp -implicitDefEqProofs only [SD, SF, SL, e_nf, reduceCtorEq, implies_true, ↓reduceIte, Nat.reduceEqDiff, Nat.reduceAdd, Nat.reduceMul, Nat.reduceSub, Nat.reduceLeDiff, Nat.reduceLT, Int.reduceLT, Int.reduceLE, Int.reduceEq, Int.reduceToNat, Int.reduceAdd, Int.reduceSub, Int.reduceNeg, Int.reduceBEq, Int.reduceBNe, Nat.reduceBEq, Int.cast_ofNat_Int, decide_true, decide_false, ne_eq, eq_self_iff_true, beq_eq_false_iff_ne, bne_iff_ne, List.replicate, *]
             done)
        | (with_reducible refine ite_in (fun _ => ?_) (fun _ => ?_))
        | (with_reducible refine ⟨fun _ => ?_, fun _ => ?_⟩)
        | (with_reducible refine And.intro ?_ ?_)
        | (with_reducible intro _)
        | (with_reducible exact is_in _)
        | ((with_reducible refine eq_in ?_); ((rw [chkS8 ho.out]; done)); done)
        | (simp -implicitDefEqProofs only [SD, SF, SL, e_nf, reduceCtorEq, implies_true, ↓reduceIte, Nat.reduceEqDiff, Nat.reduceAdd, Nat.reduceMul, Nat.reduceSub, Nat.reduceLeDiff, Nat.reduceLT, Int.reduceLT, Int.reduceLE, Int.reduceEq, Int.reduceToNat, Int.reduceAdd, Int.reduceSub, Int.reduceNeg, Int.reduceBEq, Int.reduceBNe, Nat.reduceBEq, Int.cast_ofNat_Int, decide_true, decide_false, ne_eq, eq_self_iff_true, beq_eq_false_iff_ne, bne_iff_ne, List.replicate, encEnt, *]))))

end Go.Proofs.YtcolebkklojccaaGreat.E
