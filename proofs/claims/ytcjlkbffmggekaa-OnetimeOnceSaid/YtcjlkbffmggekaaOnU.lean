/-
  OnU: walks of functions of the program at data level.
-/
import Derived.Test.YtcjlkbffmggekaaProg
import Derived.Test.YtcjlkbffmggekaaEngZ
import Derived.Test.YtcjlkbffmggekaaOnT
import Derived.KernelRfl
set_option linter.unusedVariables false
set_option linter.unusedSimpArgs false
namespace Go.Proofs.Ytcjlkbffmggekaa.E
open Go
set_option maxHeartbeats 4000000
set_option maxRecDepth 100000
set_option linter.unusedSimpArgs false
set_option linter.unusedVariables false
attribute [local congr] c_wp c_ops c_op c_opS c_run c_runS c_dt c_seq c_blk c_loop c_S c_put c_bind c_mv c_pick c_nt c_ng c_bin c_binI c_binS c_beq c_B c_eqa c_hd c_cells c_blkK c_box c_vec c_mp c_nck c_mks c_appn c_mkm c_mput c_mlk c_mrm c_take c_ld c_ldF c_cellsK c_st c_fld c_fldv c_ix c_ixp c_ixv c_ixs c_sub c_subs c_len c_lens c_src c_dst c_ow c_app c_ext c_mm c_conv c_str c_isn c_fill c_rows c_boxo c_frz c_frzO c_frzA c_frzV c_spec c_specO c_opsP c_opP c_runP c_specP c_Z c_qretP c_fz c_fn c_gv c_cond c_res1 c_resL c_ret c_qret c_ite c_unr c_nx c_bk c_cut c_is
attribute [local irreducible] dwp
def ac13 : AC := (.seq (.ops [⟨(some 8), none, (.mv (.c .e0))⟩, ⟨(some 9), none, (.mv (.c (.int .i64 0)))⟩]) (.seq (.seq (.ops [⟨(some 15), none, (.mv (.t 0))⟩, ⟨(some 16), none, (.call false 11 [(.t 15)])⟩, ⟨(some 10), none, (.mv (.t 16))⟩]) (.seq (.ops [⟨(some 17), none, (.mv (.t 10))⟩, ⟨(some 18), none, (.bin .neq (.t 17) (.c (.int .i64 0)))⟩]) (.cond (.t 18) (.seq (.ops [⟨(some 19), none, (.mv (.t 10))⟩, ⟨(some 8), none, (.mv (.c .e0))⟩, ⟨(some 9), none, (.mv (.t 19))⟩]) .ret) .skip))) (.seq (.seq (.ops [⟨(some 20), none, (.mv (.t 1))⟩, ⟨(some 21), none, (.mv (.t 2))⟩, ⟨(some 22), none, (.call false 23 [(.t 20), (.t 21)])⟩, ⟨(some 23), none, (.bin .neq (.t 22) (.c (.int .i64 0)))⟩]) (.cond (.t 23) (.seq (.ops [⟨(some 8), none, (.mv (.c .e0))⟩, ⟨(some 9), none, (.mv (.c (.int .i64 3)))⟩]) .ret) .skip)) (.seq (.seq (.ops [⟨(some 24), none, (.mv (.t 3))⟩, ⟨(some 25), none, (.bin .lss (.t 24) (.c (.int .i64 1)))⟩, ⟨(some 26), none, (.mv (.t 25))⟩, ⟨(some 27), (some (26, false)), (.mv (.t 3))⟩, ⟨(some 28), (some (26, false)), (.bin .gtr (.t 27) (.c (.int .i64 100)))⟩, ⟨(some 29), none, (.pick (.t 26) (.c (.bool true)) (.t 28))⟩]) (.cond (.t 29) (.seq (.ops [⟨(some 8), none, (.mv (.c .e0))⟩, ⟨(some 9), none, (.mv (.c (.int .i64 2)))⟩]) .ret) .skip)) (.seq (.ops [⟨(some 30), none, (.mv (.t 0))⟩, ⟨(some 31), none, (.mv (.t 1))⟩, ⟨(some 32), none, (.mv (.t 2))⟩, ⟨(some 33), none, (.call false 28 [(.t 30), (.t 31), (.t 32)])⟩, ⟨(some 11), none, (.mv (.t 33))⟩]) (.seq (.seq (.ops [⟨(some 34), none, (.mv (.t 11))⟩, ⟨(some 35), none, (.bin .geq (.t 34) (.c (.int .i64 0)))⟩]) (.cond (.t 35) (.seq (.seq (.ops [⟨(some 36), none, (.mv (.t 0))⟩, ⟨(some 37), none, (.mv (.t 11))⟩, ⟨(some 38), none, (.ix 4 (.t 36) (.t 37))⟩, ⟨(some 39), none, (.fld 3 (.t 38))⟩, ⟨(some 40), none, (.ld false 1 (.t 39))⟩, ⟨(some 41), none, (.mv (.t 3))⟩, ⟨(some 42), none, (.bin .add (.t 40) (.t 41))⟩, ⟨(some 43), none, (.bin .gtr (.t 42) (.c (.int .i64 200)))⟩, ⟨(some 44), none, (.mv (.t 43))⟩, ⟨(some 45), (some (44, false)), (.mv (.t 0))⟩, ⟨(some 46), (some (44, false)), (.mv (.t 11))⟩, ⟨(some 47), (some (44, false)), (.ix 4 (.t 45) (.t 46))⟩, ⟨(some 48), (some (44, false)), (.fld 2 (.t 47))⟩, ⟨(some 49), (some (44, false)), (.ld false 1 (.t 48))⟩, ⟨(some 50), (some (44, false)), (.mv (.t 3))⟩, ⟨(some 51), (some (44, false)), (.bin .add (.t 49) (.t 50))⟩, ⟨(some 52), (some (44, false)), (.bin .gtr (.t 51) (.c (.int .i64 1000000000000)))⟩, ⟨(some 53), none, (.pick (.t 44) (.c (.bool true)) (.t 52))⟩]) (.cond (.t 53) (.seq (.ops [⟨(some 8), none, (.mv (.c .e0))⟩, ⟨(some 9), none, (.mv (.c (.int .i64 29)))⟩]) .ret) .skip)) (.seq (.ops [⟨(some 54), none, (.buildSl 45 4 0 [(.str []), (.str []), (.int .i64 0), (.int .i64 0)] [])⟩, ⟨(some 55), none, (.mv (.t 0))⟩, ⟨(some 56), none, (.app 45 4 48 (.t 54) (.t 55))⟩, ⟨(some 12), none, (.mv (.t 56))⟩]) (.seq (.ops [⟨(some 57), none, (.mv (.t 12))⟩, ⟨(some 58), none, (.mv (.t 11))⟩, ⟨(some 59), none, (.mv (.t 0))⟩, ⟨(some 60), none, (.mv (.t 11))⟩, ⟨(some 61), none, (.ix 4 (.t 59) (.t 60))⟩, ⟨(some 62), none, (.fld 3 (.t 61))⟩, ⟨(some 63), none, (.ld false 1 (.t 62))⟩, ⟨(some 64), none, (.mv (.t 3))⟩, ⟨(some 65), none, (.bin .add (.t 63) (.t 64))⟩, ⟨(some 66), none, (.ix 4 (.t 57) (.t 58))⟩, ⟨(some 67), none, (.fld 3 (.t 66))⟩, ⟨none, none, (.sto 1 (.t 67) (.t 65))⟩]) (.seq (.ops [⟨(some 68), none, (.mv (.t 12))⟩, ⟨(some 69), none, (.mv (.t 11))⟩, ⟨(some 70), none, (.mv (.t 0))⟩, ⟨(some 71), none, (.mv (.t 11))⟩, ⟨(some 72), none, (.ix 4 (.t 70) (.t 71))⟩, ⟨(some 73), none, (.fld 2 (.t 72))⟩, ⟨(some 74), none, (.ld false 1 (.t 73))⟩, ⟨(some 75), none, (.mv (.t 3))⟩, ⟨(some 76), none, (.bin .add (.t 74) (.t 75))⟩, ⟨(some 77), none, (.ix 4 (.t 68) (.t 69))⟩, ⟨(some 78), none, (.fld 2 (.t 77))⟩, ⟨none, none, (.sto 1 (.t 78) (.t 76))⟩]) (.seq (.ops [⟨(some 79), none, (.mv (.t 12))⟩, ⟨(some 8), none, (.mv (.t 79))⟩, ⟨(some 9), none, (.mv (.c (.int .i64 0)))⟩]) .ret))))) .skip)) (.seq (.ops [⟨(some 13), none, (.mv (.c .e0))⟩]) (.seq (.ops [⟨(some 14), none, (.mv (.c (.int .i64 0)))⟩]) (.seq (.block 0 (.loop (.seq (.seq (.ops [⟨(some 80), none, (.mv (.t 14))⟩, ⟨(some 81), none, (.mv (.t 0))⟩, ⟨(some 82), none, (.len (.t 81))⟩, ⟨(some 83), none, (.bin .lss (.t 80) (.t 82))⟩, ⟨(some 84), none, (.mv (.t 83))⟩, ⟨(some 85), (some (84, true)), (.mv (.t 0))⟩, ⟨(some 86), (some (84, true)), (.mv (.t 14))⟩, ⟨(some 87), (some (84, true)), (.ix 4 (.t 85) (.t 86))⟩, ⟨(some 88), (some (84, true)), (.ld true 4 (.t 87))⟩, ⟨(some 89), (some (84, true)), (.mv (.t 1))⟩, ⟨(some 90), (some (84, true)), (.mv (.t 2))⟩, ⟨(some 91), (some (84, true)), (.call false 24 [(.t 88), (.t 89), (.t 90)])⟩, ⟨(some 92), none, (.pick (.t 84) (.t 91) (.c (.bool false)))⟩]) (.cond (.t 92) .skip (.exit 0))) (.block 1 (.seq (.ops [⟨(some 93), none, (.mv (.t 13))⟩, ⟨(some 94), none, (.mv (.t 0))⟩, ⟨(some 95), none, (.mv (.t 14))⟩, ⟨(some 96), none, (.ix 4 (.t 94) (.t 95))⟩, ⟨(some 97), none, (.ld true 4 (.t 96))⟩, ⟨(some 98), none, (.buildSl 45 4 1 [(.str []), (.str []), (.int .i64 0), (.int .i64 0)] [(0, (.t 97))])⟩, ⟨(some 99), none, (.app 45 4 48 (.t 93) (.t 98))⟩, ⟨(some 13), none, (.mv (.t 99))⟩]) (.ops [⟨(some 100), none, (.mv (.t 14))⟩, ⟨(some 101), none, (.bin .add (.t 100) (.c (.int .i64 1)))⟩, ⟨(some 14), none, (.mv (.t 101))⟩])))))) (.seq (.ops [⟨(some 102), none, (.mv (.t 13))⟩, ⟨(some 103), none, (.mv (.t 1))⟩, ⟨(some 104), none, (.mv (.t 2))⟩, ⟨(some 105), none, (.mv (.t 3))⟩, ⟨(some 106), none, (.mv (.t 3))⟩, ⟨(some 107), none, (.build [(.str []), (.str []), (.int .i64 0), (.int .i64 0)] [(0, (1, (.t 103))), (1, (1, (.t 104))), (2, (1, (.t 105))), (3, (1, (.t 106)))])⟩, ⟨(some 108), none, (.buildSl 45 4 1 [(.str []), (.str []), (.int .i64 0), (.int .i64 0)] [(0, (.t 107))])⟩, ⟨(some 109), none, (.app 45 4 48 (.t 102) (.t 108))⟩, ⟨(some 13), none, (.mv (.t 109))⟩]) (.seq (.ops [⟨(some 110), none, (.mv (.t 13))⟩, ⟨(some 111), none, (.mv (.t 0))⟩, ⟨(some 112), none, (.mv (.t 14))⟩, ⟨(some 113), none, (.sub 4 (.t 111) (some (.t 112)) none none)⟩, ⟨(some 114), none, (.app 45 4 48 (.t 110) (.t 113))⟩, ⟨(some 8), none, (.mv (.t 114))⟩, ⟨(some 9), none, (.mv (.c (.int .i64 0)))⟩]) .ret)))))))))))
theorem tr13 : Try.f13.body.bind (trCode Try.prog) = some (strip ac13) := by kernel_rfl
theorem spec13 (l : List OT) (u v : List UInt8) (q : Int) (hb : l.length ≤ 1000) : Spec Try.prog 13 [.fz (.sl 4 (l.map encOT)), .fz (.str u), .fz (.str v), .fz (.int .i64 q)] (.fz (.tup [.sl 4 ((upR l u v q).1.map encOT), .int .i64 (upR l u v q).2])) := by
  refine spec_at (n := 111) (ars := [(.t 8), (.t 9)]) (ac := ac13) Try.func13 (by kernel_rfl) (by kernel_rfl) tr13 (by kernel_rfl) ?_
  unfold ac13
  have h1 : l.length ≤ maxLen := by simp only [maxLen]; omega
  have h2 : l.length * 48 ≤ 140737488355328 := by omega
  by_cases hc0 : chkL l = 0
  case neg =>
    have hup : upR l u v q = ([], chkL l) := by simp [upR, hc0]
    iterate 30 (all_goals (try (first
      | ((with_reducible refine of_kSpec ?_); refine call_fz (spec11 l) rfl ?_)
      | ((with_reducible refine of_kSpec ?_); refine call_fz (spec23 u v) rfl ?_)
      | ((with_reducible refine of_kSpec ?_); refine call_fz (spec28 l u v) rfl ?_)
      | (with_reducible refine ite_in (fun _ => ?_) (fun _ => ?_))
      | (with_reducible refine ⟨fun _ => ?_, fun _ => ?_⟩)
      | (with_reducible refine And.intro ?_ ?_)
      | (with_reducible intro _)
      | (with_reducible exact is_in _)
      | (simp -implicitDefEqProofs only [SD, SF, SL, e_nf, reduceCtorEq, implies_true, ↓reduceIte, Nat.reduceEqDiff, Nat.reduceAdd, Nat.reduceMul, Nat.reduceSub, Nat.reduceLeDiff, Nat.reduceLT, Int.reduceLT, Int.reduceLE, Int.reduceEq, Int.reduceToNat, Int.reduceAdd, Int.reduceSub, Int.reduceNeg, Int.reduceBEq, Int.reduceBNe, Nat.reduceBEq, Int.cast_ofNat_Int, decide_true, decide_false, ne_eq, eq_self_iff_true, beq_eq_false_iff_ne, bne_iff_ne, List.replicate, encOT, addO, *]))))
    all_goals ((rw [hup]; first | rfl | exact .inl rfl | (simp_all; done)))
  by_cases hn0 : nameD u v = true
  case neg =>
    have hup : upR l u v q = ([], 3) := by simp [upR, hc0, hn0]
    iterate 30 (all_goals (try (first
      | ((with_reducible refine of_kSpec ?_); refine call_fz (spec11 l) rfl ?_)
      | ((with_reducible refine of_kSpec ?_); refine call_fz (spec23 u v) rfl ?_)
      | ((with_reducible refine of_kSpec ?_); refine call_fz (spec28 l u v) rfl ?_)
      | (with_reducible refine ite_in (fun _ => ?_) (fun _ => ?_))
      | (with_reducible refine ⟨fun _ => ?_, fun _ => ?_⟩)
      | (with_reducible refine And.intro ?_ ?_)
      | (with_reducible intro _)
      | (with_reducible exact is_in _)
      | (simp -implicitDefEqProofs only [SD, SF, SL, e_nf, reduceCtorEq, implies_true, ↓reduceIte, Nat.reduceEqDiff, Nat.reduceAdd, Nat.reduceMul, Nat.reduceSub, Nat.reduceLeDiff, Nat.reduceLT, Int.reduceLT, Int.reduceLE, Int.reduceEq, Int.reduceToNat, Int.reduceAdd, Int.reduceSub, Int.reduceNeg, Int.reduceBEq, Int.reduceBNe, Nat.reduceBEq, Int.cast_ofNat_Int, decide_true, decide_false, ne_eq, eq_self_iff_true, beq_eq_false_iff_ne, bne_iff_ne, List.replicate, encOT, addO, *]))))
    all_goals ((rw [hup]; first | rfl | exact .inl rfl | (simp_all; done)))
  by_cases hq0 : q < 1
  case pos =>
    have hup : upR l u v q = ([], 2) := by simp [upR, hc0, hn0, hq0]
    iterate 30 (all_goals (try (first
      | ((with_reducible refine of_kSpec ?_); refine call_fz (spec11 l) rfl ?_)
      | ((with_reducible refine of_kSpec ?_); refine call_fz (spec23 u v) rfl ?_)
      | ((with_reducible refine of_kSpec ?_); refine call_fz (spec28 l u v) rfl ?_)
      | (with_reducible refine ite_in (fun _ => ?_) (fun _ => ?_))
      | (with_reducible refine ⟨fun _ => ?_, fun _ => ?_⟩)
      | (with_reducible refine And.intro ?_ ?_)
      | (with_reducible intro _)
      | (with_reducible exact is_in _)
      | (simp -implicitDefEqProofs only [SD, SF, SL, e_nf, reduceCtorEq, implies_true, ↓reduceIte, Nat.reduceEqDiff, Nat.reduceAdd, Nat.reduceMul, Nat.reduceSub, Nat.reduceLeDiff, Nat.reduceLT, Int.reduceLT, Int.reduceLE, Int.reduceEq, Int.reduceToNat, Int.reduceAdd, Int.reduceSub, Int.reduceNeg, Int.reduceBEq, Int.reduceBNe, Nat.reduceBEq, Int.cast_ofNat_Int, decide_true, decide_false, ne_eq, eq_self_iff_true, beq_eq_false_iff_ne, bne_iff_ne, List.replicate, encOT, addO, *]))))
    all_goals ((rw [hup]; first | rfl | exact .inl rfl | (simp_all; done)))
  by_cases hq1 : 100 < q
  case pos =>
    have hup : upR l u v q = ([], 2) := by simp [upR, hc0, hn0, hq1]
    iterate 30 (all_goals (try (first
      | ((with_reducible refine of_kSpec ?_); refine call_fz (spec11 l) rfl ?_)
      | ((with_reducible refine of_kSpec ?_); refine call_fz (spec23 u v) rfl ?_)
      | ((with_reducible refine of_kSpec ?_); refine call_fz (spec28 l u v) rfl ?_)
      | (with_reducible refine ite_in (fun _ => ?_) (fun _ => ?_))
      | (with_reducible refine ⟨fun _ => ?_, fun _ => ?_⟩)
      | (with_reducible refine And.intro ?_ ?_)
      | (with_reducible intro _)
      | (with_reducible exact is_in _)
      | (simp -implicitDefEqProofs only [SD, SF, SL, e_nf, reduceCtorEq, implies_true, ↓reduceIte, Nat.reduceEqDiff, Nat.reduceAdd, Nat.reduceMul, Nat.reduceSub, Nat.reduceLeDiff, Nat.reduceLT, Int.reduceLT, Int.reduceLE, Int.reduceEq, Int.reduceToNat, Int.reduceAdd, Int.reduceSub, Int.reduceNeg, Int.reduceBEq, Int.reduceBNe, Nat.reduceBEq, Int.cast_ofNat_Int, decide_true, decide_false, ne_eq, eq_self_iff_true, beq_eq_false_iff_ne, bne_iff_ne, List.replicate, encOT, addO, *]))))
    all_goals ((rw [hup]; first | rfl | exact .inl rfl | (simp_all; done)))
  have hq2 : ¬ (q < 1 ∨ 100 < q) := by omega
  rcases place_cases l u v 0 with ⟨hp, hf⟩ | ⟨pre, x, rest, he, hp, hf, hu, hsv, hnm⟩
  · have hup : upR l u v q = (insL l ⟨u, v, q, q⟩, 0) := by simp only [upR, hc0, hn0, hf]; simp [hq2]
    clear hq2
    iterate 14 (all_goals (try (first
      | ((with_reducible refine of_kSpec ?_); refine call_fz (spec11 l) rfl ?_)
      | ((with_reducible refine of_kSpec ?_); refine call_fz (spec23 u v) rfl ?_)
      | ((with_reducible refine of_kSpec ?_); refine call_fz (spec28 l u v) rfl ?_)
      | (with_reducible refine ite_in (fun _ => ?_) (fun _ => ?_))
      | (with_reducible refine ⟨fun _ => ?_, fun _ => ?_⟩)
      | (with_reducible refine And.intro ?_ ?_)
      | (with_reducible intro _)
      | (with_reducible exact is_in _)
      | (simp -implicitDefEqProofs only [SD, SF, SL, e_nf, reduceCtorEq, implies_true, ↓reduceIte, Nat.reduceEqDiff, Nat.reduceAdd, Nat.reduceMul, Nat.reduceSub, Nat.reduceLeDiff, Nat.reduceLT, Int.reduceLT, Int.reduceLE, Int.reduceEq, Int.reduceToNat, Int.reduceAdd, Int.reduceSub, Int.reduceNeg, Int.reduceBEq, Int.reduceBNe, Nat.reduceBEq, Int.cast_ofNat_Int, decide_true, decide_false, ne_eq, eq_self_iff_true, beq_eq_false_iff_ne, bne_iff_ne, List.replicate, encOT, addO, *]))))
    all_goals (skip)
    have htk : (l.map encOT).take l.length = l.map encOT := List.take_of_length_le (by simp)
    refine loop_r (X := List OT × List OT × (DV × List (Nat × Blk))) (fun n x => l = x.1 ++ x.2.1 ∧ n = x.2.1.length ∧ (x.1.all (bm (⟨u, v, q, q⟩ : OT)) = true ∧ ((x.1 = [] ∧ x.2.2 = (DV.e0, [])) ∨ x.2.2 = (DV.ow 99, [(99, Blk.vec 45 4 (x.1.map encOT))])))) (fun x => [(14, .int .i64 x.1.length), (13, x.2.2.1)]) (fun x => x.2.2.2) [80, 81, 82, 83, 84, 85, 86, 87, 88, 89, 90, 91, 92, 93, 94, 95, 96, 97, 98, 99, 100, 101] [98, 99] [98] (l).length ([], l, (DV.e0, [])) ⟨rfl, rfl, by exact ⟨rfl, .inl ⟨rfl, rfl⟩⟩⟩ ?_ ?_
    · simp -implicitDefEqProofs only [SD, SF, SL, e_nf, reduceCtorEq, implies_true, ↓reduceIte, Nat.reduceEqDiff, Nat.reduceAdd, Nat.reduceMul, Nat.reduceSub, Nat.reduceLeDiff, Nat.reduceLT, Int.reduceLT, Int.reduceLE, Int.reduceEq, Int.reduceToNat, Int.reduceAdd, Int.reduceSub, Int.reduceNeg, Int.reduceBEq, Int.reduceBNe, Nat.reduceBEq, Int.cast_ofNat_Int, decide_true, decide_false, ne_eq, eq_self_iff_true, beq_eq_false_iff_ne, bne_iff_ne, List.replicate, encOT] <;> simp
    · rintro n ⟨pre, rest, a⟩ ⟨he, rfl, hI⟩
      dsimp only at he hI
      cases rest with
      | nil =>
        obtain rfl : l = pre := by simpa using he
        clear he
        have hlt : ¬ (((l).length : Int) < ((l).length : Int)) := Int.lt_irrefl _
        have hz2 : l.length + 1 ≤ maxLen := by simp only [maxLen]; omega
        have hz3 : (l.length + 1) * 48 ≤ 140737488355328 := by omega
        rcases hI with ⟨hI, ⟨hl0, rfl⟩ | rfl⟩
        all_goals try replace hl0 := Hd.mk hl0
        iterate 30 (all_goals (try (first
          | (with_reducible refine ite_in (fun _ => ?_) (fun _ => ?_))
          | (with_reducible refine ⟨fun _ => ?_, fun _ => ?_⟩)
          | (with_reducible refine And.intro ?_ ?_)
          | (with_reducible intro _)
          | (with_reducible exact is_in _)
          | (simp -implicitDefEqProofs only [SD, SF, SL, e_nf, reduceCtorEq, implies_true, ↓reduceIte, Nat.reduceEqDiff, Nat.reduceAdd, Nat.reduceMul, Nat.reduceSub, Nat.reduceLeDiff, Nat.reduceLT, Int.reduceLT, Int.reduceLE, Int.reduceEq, Int.reduceToNat, Int.reduceAdd, Int.reduceSub, Int.reduceNeg, Int.reduceBEq, Int.reduceBNe, Nat.reduceBEq, Int.cast_ofNat_Int, decide_true, decide_false, ne_eq, eq_self_iff_true, beq_eq_false_iff_ne, bne_iff_ne, List.replicate, encOT, encOT, *]))))
        all_goals (first | decide | (simp only [maxLen, List.length_append, List.length_map, List.length_cons, List.length_nil, List.length_drop, htk] <;> omega) | omega | (have hl := hl0.out; subst hl; simp [insL, encOT]; done) | (have hp := hp0.out; rw [tw_at he.out hI (by simp_all [bm]), hp]; simp [htk, encOT]; done) | (rw [tw_at_end hI]; simp_all [encOT]; done) | (rw [tw_at he.out hI (by simp_all [bm])]; simp_all [encOT]; done) | (simp_all; done))

      | cons x rest =>
        have hlt := cut_lt he
        have hx := cutD encOT he
        simp only [encOT] at hx
        simp -implicitDefEqProofs only [SD, SF, SL, e_nf, reduceCtorEq, implies_true, ↓reduceIte, Nat.reduceEqDiff, Nat.reduceAdd, Nat.reduceMul, Nat.reduceSub, Nat.reduceLeDiff, Nat.reduceLT, Int.reduceLT, Int.reduceLE, Int.reduceEq, Int.reduceToNat, Int.reduceAdd, Int.reduceSub, Int.reduceNeg, Int.reduceBEq, Int.reduceBNe, Nat.reduceBEq, Int.cast_ofNat_Int, decide_true, decide_false, ne_eq, eq_self_iff_true, beq_eq_false_iff_ne, bne_iff_ne, List.replicate, encOT, hlt]
        intro hl
        have hw := wrap_len (n := pre.length) (m := (l).length) (cut_lt' he) (by simpa using hl)
        replace he := Hd.mk he
        have hz1 := cut_lt' he.out
        have hz2 : pre.length + 1 ≤ maxLen := by simp only [maxLen]; omega
        have hz3 : (pre.length + 1) * 48 ≤ 140737488355328 := by omega
        have hz4 : (pre.length + 1) + (l.length - pre.length) ≤ maxLen := by simp only [maxLen]; omega
        have hz5 : ((pre.length + 1) + (l.length - pre.length)) * 48 ≤ 140737488355328 := by omega
        have hz6 : 1 + (l.length - 0) ≤ maxLen := by simp only [maxLen]; omega
        have hz7 : (pre.length : Int) ≤ l.length := by omega
        rcases hI with ⟨hI, ⟨hp0, rfl⟩ | rfl⟩
        all_goals try replace hp0 := Hd.mk hp0
        iterate 30 (all_goals (try (first
          | ((with_reducible refine back_in rest.length [80, 81, 82, 83, 84, 85, 86, 87, 88, 89, 90, 91, 92, 93, 94, 95, 96, 97, 98, 99, 100, 101] [98] (pre ++ [x], rest, (DV.ow 99, [(99, Blk.vec 45 4 (pre.map encOT ++ [encOT x]))])) ?_ ⟨?_, ?_, ?_⟩ ?_)
             · simp
             · exact cut_snoc he.out
             · rfl
             · first | exact ⟨all_snoc hI (by simp_all [bm]), .inr (by rw [List.map_append]; rfl)⟩ | exact ⟨all_snoc hI (by simp_all [bm]), .inr (by rw [hp0.out]; rfl)⟩
             · first | (simp -implicitDefEqProofs only [SD, SF, SL, e_nf, reduceCtorEq, implies_true, ↓reduceIte, Nat.reduceEqDiff, Nat.reduceAdd, Nat.reduceMul, Nat.reduceSub, Nat.reduceLeDiff, Nat.reduceLT, Int.reduceLT, Int.reduceLE, Int.reduceEq, Int.reduceToNat, Int.reduceAdd, Int.reduceSub, Int.reduceNeg, Int.reduceBEq, Int.reduceBNe, Nat.reduceBEq, Int.cast_ofNat_Int, decide_true, decide_false, ne_eq, eq_self_iff_true, beq_eq_false_iff_ne, bne_iff_ne, List.replicate, encOT] <;> simp <;> done) | (simp -implicitDefEqProofs only [SD, SF, SL, e_nf, reduceCtorEq, implies_true, ↓reduceIte, Nat.reduceEqDiff, Nat.reduceAdd, Nat.reduceMul, Nat.reduceSub, Nat.reduceLeDiff, Nat.reduceLT, Int.reduceLT, Int.reduceLE, Int.reduceEq, Int.reduceToNat, Int.reduceAdd, Int.reduceSub, Int.reduceNeg, Int.reduceBEq, Int.reduceBNe, Nat.reduceBEq, Int.cast_ofNat_Int, decide_true, decide_false, ne_eq, eq_self_iff_true, beq_eq_false_iff_ne, bne_iff_ne, List.replicate, encOT, *] <;> simp_all <;> done))
          | ((with_reducible refine back_in rest.length [80, 81, 82, 83, 84, 85, 86, 87, 88, 89, 90, 91, 92, 93, 94, 95, 96, 97, 98, 99, 100, 101] [98] (pre ++ [x], rest, (DV.ow 99, [(99, Blk.vec 45 4 [encOT x])])) ?_ ⟨?_, ?_, ?_⟩ ?_)
             · simp
             · exact cut_snoc he.out
             · rfl
             · first | exact ⟨all_snoc hI (by simp_all [bm]), .inr (by rw [List.map_append]; rfl)⟩ | exact ⟨all_snoc hI (by simp_all [bm]), .inr (by rw [hp0.out]; rfl)⟩
             · first | (simp -implicitDefEqProofs only [SD, SF, SL, e_nf, reduceCtorEq, implies_true, ↓reduceIte, Nat.reduceEqDiff, Nat.reduceAdd, Nat.reduceMul, Nat.reduceSub, Nat.reduceLeDiff, Nat.reduceLT, Int.reduceLT, Int.reduceLE, Int.reduceEq, Int.reduceToNat, Int.reduceAdd, Int.reduceSub, Int.reduceNeg, Int.reduceBEq, Int.reduceBNe, Nat.reduceBEq, Int.cast_ofNat_Int, decide_true, decide_false, ne_eq, eq_self_iff_true, beq_eq_false_iff_ne, bne_iff_ne, List.replicate, encOT] <;> simp <;> done) | (simp -implicitDefEqProofs only [SD, SF, SL, e_nf, reduceCtorEq, implies_true, ↓reduceIte, Nat.reduceEqDiff, Nat.reduceAdd, Nat.reduceMul, Nat.reduceSub, Nat.reduceLeDiff, Nat.reduceLT, Int.reduceLT, Int.reduceLE, Int.reduceEq, Int.reduceToNat, Int.reduceAdd, Int.reduceSub, Int.reduceNeg, Int.reduceBEq, Int.reduceBNe, Nat.reduceBEq, Int.cast_ofNat_Int, decide_true, decide_false, ne_eq, eq_self_iff_true, beq_eq_false_iff_ne, bne_iff_ne, List.replicate, encOT, *] <;> simp_all <;> done))
          | ((with_reducible refine of_kSpec ?_)
             refine call_sub (ds' := [.agg (encOT x), .str u, .str v]) (spec24 x u v) rfl ?_ ?_
             · simp -implicitDefEqProofs only [SD, SF, SL, e_nf, reduceCtorEq, implies_true, ↓reduceIte, Nat.reduceEqDiff, Nat.reduceAdd, Nat.reduceMul, Nat.reduceSub, Nat.reduceLeDiff, Nat.reduceLT, Int.reduceLT, Int.reduceLE, Int.reduceEq, Int.reduceToNat, Int.reduceAdd, Int.reduceSub, Int.reduceNeg, Int.reduceBEq, Int.reduceBNe, Nat.reduceBEq, Int.cast_ofNat_Int, decide_true, decide_false, ne_eq, eq_self_iff_true, beq_eq_false_iff_ne, bne_iff_ne, List.replicate, encOT, *]
               done)
          | (with_reducible refine ite_in (fun _ => ?_) (fun _ => ?_))
          | (with_reducible refine ⟨fun _ => ?_, fun _ => ?_⟩)
          | (with_reducible refine And.intro ?_ ?_)
          | (with_reducible intro _)
          | (with_reducible exact is_in _)
          | (simp -implicitDefEqProofs only [SD, SF, SL, e_nf, reduceCtorEq, implies_true, ↓reduceIte, Nat.reduceEqDiff, Nat.reduceAdd, Nat.reduceMul, Nat.reduceSub, Nat.reduceLeDiff, Nat.reduceLT, Int.reduceLT, Int.reduceLE, Int.reduceEq, Int.reduceToNat, Int.reduceAdd, Int.reduceSub, Int.reduceNeg, Int.reduceBEq, Int.reduceBNe, Nat.reduceBEq, Int.cast_ofNat_Int, decide_true, decide_false, ne_eq, eq_self_iff_true, beq_eq_false_iff_ne, bne_iff_ne, List.replicate, encOT, *]))))
        all_goals (first | decide | (simp only [maxLen, List.length_append, List.length_map, List.length_cons, List.length_nil, List.length_drop, htk] <;> omega) | omega | (have hl := hl0.out; subst hl; simp [insL, encOT]; done) | (have hp := hp0.out; rw [tw_at he.out hI (by simp_all [bm]), hp]; simp [htk, encOT]; done) | (rw [tw_at_end hI]; simp_all [encOT]; done) | (rw [tw_at he.out hI (by simp_all [bm])]; simp_all [encOT]; done) | (simp_all; done))
  · rw [Nat.zero_add] at hp
    have hx := cutD encOT he
    simp only [encOT] at hx
    have hlt := cut_lt he
    have hlt2 := cut_lt' he
    have hge : ¬ ((pre.length : Int) < 0) := by omega
    have hge2 : (0 : Int) ≤ (pre.length : Int) := by omega
    obtain ⟨hg1, hs1, hl1⟩ := set_facts he
    replace he := Hd.mk he
    replace hsv := Hd.mk hsv
    replace hnm := Hd.mk hnm
    by_cases hl0 : 200 < IntKind.i64.wrap (x.left + q)
    case pos =>
      have hup : upR l u v q = ([], 29) := by simp only [upR, hc0, hn0, hf]; simp [hq2, fullB, hl0]
      clear hq2
      iterate 30 (all_goals (try (first
        | ((with_reducible refine of_kSpec ?_); refine call_fz (spec11 l) rfl ?_)
        | ((with_reducible refine of_kSpec ?_); refine call_fz (spec23 u v) rfl ?_)
        | ((with_reducible refine of_kSpec ?_); refine call_fz (spec28 l u v) rfl ?_)
        | (with_reducible refine ite_in (fun _ => ?_) (fun _ => ?_))
        | (with_reducible refine ⟨fun _ => ?_, fun _ => ?_⟩)
        | (with_reducible refine And.intro ?_ ?_)
        | (with_reducible intro _)
        | (with_reducible exact is_in _)
        | (simp -implicitDefEqProofs only [SD, SF, SL, e_nf, reduceCtorEq, implies_true, ↓reduceIte, Nat.reduceEqDiff, Nat.reduceAdd, Nat.reduceMul, Nat.reduceSub, Nat.reduceLeDiff, Nat.reduceLT, Int.reduceLT, Int.reduceLE, Int.reduceEq, Int.reduceToNat, Int.reduceAdd, Int.reduceSub, Int.reduceNeg, Int.reduceBEq, Int.reduceBNe, Nat.reduceBEq, Int.cast_ofNat_Int, decide_true, decide_false, ne_eq, eq_self_iff_true, beq_eq_false_iff_ne, bne_iff_ne, List.replicate, encOT, addO, *]))))
      all_goals ((rw [hup]; first | rfl | exact .inl rfl | (simp_all; done)))
    by_cases hl2 : 1000000000000 < IntKind.i64.wrap (x.next + q)
    case pos =>
      have hup : upR l u v q = ([], 29) := by simp only [upR, hc0, hn0, hf]; simp [hq2, fullB, hl2]
      clear hq2
      iterate 30 (all_goals (try (first
        | ((with_reducible refine of_kSpec ?_); refine call_fz (spec11 l) rfl ?_)
        | ((with_reducible refine of_kSpec ?_); refine call_fz (spec23 u v) rfl ?_)
        | ((with_reducible refine of_kSpec ?_); refine call_fz (spec28 l u v) rfl ?_)
        | (with_reducible refine ite_in (fun _ => ?_) (fun _ => ?_))
        | (with_reducible refine ⟨fun _ => ?_, fun _ => ?_⟩)
        | (with_reducible refine And.intro ?_ ?_)
        | (with_reducible intro _)
        | (with_reducible exact is_in _)
        | (simp -implicitDefEqProofs only [SD, SF, SL, e_nf, reduceCtorEq, implies_true, ↓reduceIte, Nat.reduceEqDiff, Nat.reduceAdd, Nat.reduceMul, Nat.reduceSub, Nat.reduceLeDiff, Nat.reduceLT, Int.reduceLT, Int.reduceLE, Int.reduceEq, Int.reduceToNat, Int.reduceAdd, Int.reduceSub, Int.reduceNeg, Int.reduceBEq, Int.reduceBNe, Nat.reduceBEq, Int.cast_ofNat_Int, decide_true, decide_false, ne_eq, eq_self_iff_true, beq_eq_false_iff_ne, bne_iff_ne, List.replicate, encOT, addO, *]))))
      all_goals ((rw [hup]; first | rfl | exact .inl rfl | (simp_all; done)))
    have hup : upR l u v q = (pre ++ addO q x :: rest, 0) := by simp only [upR, hc0, hn0, hf]; simp [hq2, fullB, hl0, hl2, hu]
    clear hq2
    iterate 40 (all_goals (try (first
      | ((with_reducible refine of_kSpec ?_); refine call_fz (spec11 l) rfl ?_)
      | ((with_reducible refine of_kSpec ?_); refine call_fz (spec23 u v) rfl ?_)
      | ((with_reducible refine of_kSpec ?_); refine call_fz (spec28 l u v) rfl ?_)
      | (with_reducible refine ite_in (fun _ => ?_) (fun _ => ?_))
      | (with_reducible refine ⟨fun _ => ?_, fun _ => ?_⟩)
      | (with_reducible refine And.intro ?_ ?_)
      | (with_reducible intro _)
      | (with_reducible exact is_in _)
      | (simp -implicitDefEqProofs only [SD, SF, SL, e_nf, reduceCtorEq, implies_true, ↓reduceIte, Nat.reduceEqDiff, Nat.reduceAdd, Nat.reduceMul, Nat.reduceSub, Nat.reduceLeDiff, Nat.reduceLT, Int.reduceLT, Int.reduceLE, Int.reduceEq, Int.reduceToNat, Int.reduceAdd, Int.reduceSub, Int.reduceNeg, Int.reduceBEq, Int.reduceBNe, Nat.reduceBEq, Int.cast_ofNat_Int, decide_true, decide_false, ne_eq, eq_self_iff_true, beq_eq_false_iff_ne, bne_iff_ne, List.replicate, encOT, addO, *]))))
    all_goals ((try rw [hup]) <;> (first | rfl | (have hst := set_at he.out (addO q x); simp only [addO] at hst; rw [hst]; first | exact .inl rfl | rfl | (simp [encOT]; done))))


end Go.Proofs.Ytcjlkbffmggekaa.E
