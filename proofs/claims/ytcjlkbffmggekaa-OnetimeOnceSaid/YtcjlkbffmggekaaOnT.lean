/-
  OnT: walks of functions of the program at data level.
-/
import Derived.Test.YtcjlkbffmggekaaProg
import Derived.Test.YtcjlkbffmggekaaEngZ
import Derived.Test.YtcjlkbffmggekaaOnS
import Derived.KernelRfl
set_option linter.unusedVariables false
set_option linter.unusedSimpArgs false
namespace Go.Proofs.Ytcjlkbffmggekaa.E
open Go
set_option maxHeartbeats 4000000
set_option maxRecDepth 100000
set_option linter.unusedSimpArgs false
set_option linter.unusedVariables false
attribute [local congr] c_wp c_ops c_op c_opS c_run c_runS c_dt c_seq c_blk c_loop c_S c_put c_bind c_mv c_pick c_nt c_ng c_bin c_binI c_binS c_beq c_B c_eqa c_hd c_cells c_blkK c_box c_vec c_mp c_nck c_mks c_appn c_mkm c_mput c_mlk c_mrm c_take c_ld c_ldF c_cellsK c_st c_fld c_fldv c_ix c_ixp c_ixv c_ixs c_sub c_subs c_len c_lens c_src c_dst c_ow c_app c_ext c_mm c_conv c_str c_isn c_fill c_rows c_boxo c_frz c_frzO c_frzA c_frzV c_spec c_specO c_opsP c_opP c_runP c_specP c_Z c_qretP c_fz c_fn c_gv c_cond c_res1 c_resL c_ret c_qret c_ite c_unr c_nx c_bk c_cut c_is
attribute [local irreducible] dwp
def ac12 : AC := (.seq (.ops [⟨(some 8), none, (.mv (.c .e0))⟩, ⟨(some 9), none, (.mv (.c (.int .i64 0)))⟩]) (.seq (.seq (.ops [⟨(some 14), none, (.mv (.t 0))⟩, ⟨(some 15), none, (.call false 10 [(.t 14)])⟩, ⟨(some 10), none, (.mv (.t 15))⟩]) (.seq (.ops [⟨(some 16), none, (.mv (.t 10))⟩, ⟨(some 17), none, (.bin .neq (.t 16) (.c (.int .i64 0)))⟩]) (.cond (.t 17) (.seq (.ops [⟨(some 18), none, (.mv (.t 10))⟩, ⟨(some 8), none, (.mv (.c .e0))⟩, ⟨(some 9), none, (.mv (.t 18))⟩]) .ret) .skip))) (.seq (.seq (.ops [⟨(some 19), none, (.mv (.t 1))⟩, ⟨(some 20), none, (.mv (.t 2))⟩, ⟨(some 21), none, (.call false 21 [(.t 19), (.t 20)])⟩, ⟨(some 22), none, (.nt (.t 21))⟩]) (.cond (.t 22) (.seq (.ops [⟨(some 8), none, (.mv (.c .e0))⟩, ⟨(some 9), none, (.mv (.c (.int .i64 3)))⟩]) .ret) .skip)) (.seq (.seq (.ops [⟨(some 23), none, (.mv (.t 3))⟩, ⟨(some 24), none, (.bin .lss (.t 23) (.c (.int .i64 1)))⟩, ⟨(some 25), none, (.mv (.t 24))⟩, ⟨(some 26), (some (25, false)), (.mv (.t 3))⟩, ⟨(some 27), (some (25, false)), (.bin .gtr (.t 26) (.c (.int .i64 100)))⟩, ⟨(some 28), none, (.pick (.t 25) (.c (.bool true)) (.t 27))⟩]) (.cond (.t 28) (.seq (.ops [⟨(some 8), none, (.mv (.c .e0))⟩, ⟨(some 9), none, (.mv (.c (.int .i64 2)))⟩]) .ret) .skip)) (.seq (.ops [⟨(some 29), none, (.mv (.t 0))⟩, ⟨(some 30), none, (.call false 25 [(.t 29)])⟩, ⟨(some 11), none, (.mv (.t 30))⟩]) (.seq (.ops [⟨(some 31), none, (.mv (.t 0))⟩, ⟨(some 32), none, (.mv (.t 1))⟩, ⟨(some 33), none, (.mv (.t 2))⟩, ⟨(some 34), none, (.call false 26 [(.t 31), (.t 32), (.t 33)])⟩, ⟨(some 12), none, (.mv (.t 34))⟩]) (.seq (.seq (.ops [⟨(some 35), none, (.mv (.t 12))⟩, ⟨(some 36), none, (.bin .lss (.t 35) (.c (.int .i64 0)))⟩]) (.cond (.t 36) (.seq (.ops [⟨(some 12), none, (.mv (.c (.int .i64 0)))⟩]) (.seq (.block 0 (.loop (.seq (.seq (.ops [⟨(some 37), none, (.mv (.t 12))⟩, ⟨(some 38), none, (.mv (.t 0))⟩, ⟨(some 39), none, (.len (.t 38))⟩, ⟨(some 40), none, (.bin .lss (.t 37) (.t 39))⟩, ⟨(some 41), none, (.mv (.t 40))⟩, ⟨(some 42), (some (41, true)), (.mv (.t 0))⟩, ⟨(some 43), (some (41, true)), (.mv (.t 12))⟩, ⟨(some 44), (some (41, true)), (.ix 4 (.t 42) (.t 43))⟩, ⟨(some 45), (some (41, true)), (.ld true 4 (.t 44))⟩, ⟨(some 46), (some (41, true)), (.mv (.t 1))⟩, ⟨(some 47), (some (41, true)), (.mv (.t 2))⟩, ⟨(some 48), (some (41, true)), (.call false 22 [(.t 45), (.t 46), (.t 47)])⟩, ⟨(some 49), none, (.pick (.t 41) (.t 48) (.c (.bool false)))⟩]) (.cond (.t 49) .skip (.exit 0))) (.block 1 (.ops [⟨(some 50), none, (.mv (.t 12))⟩, ⟨(some 51), none, (.bin .add (.t 50) (.c (.int .i64 1)))⟩, ⟨(some 12), none, (.mv (.t 51))⟩]))))) (.seq (.ops [⟨(some 52), none, (.mv (.t 11))⟩, ⟨(some 53), none, (.mv (.t 12))⟩, ⟨(some 54), none, (.mv (.t 1))⟩, ⟨(some 55), none, (.mv (.t 2))⟩, ⟨(some 56), none, (.mv (.t 3))⟩, ⟨(some 57), none, (.mv (.t 3))⟩, ⟨(some 58), none, (.build [(.str []), (.str []), (.int .i64 0), (.int .i64 0)] [(0, (1, (.t 54))), (1, (1, (.t 55))), (2, (1, (.t 56))), (3, (1, (.t 57)))])⟩, ⟨(some 59), none, (.buildSl 45 4 1 [(.str []), (.str []), (.int .i64 0), (.int .i64 0)] [(0, (.t 58))])⟩, ⟨(some 60), none, (.call true 27 [(.t 52), (.t 53), (.t 59)])⟩, ⟨(some 8), none, (.mv (.t 60))⟩, ⟨(some 9), none, (.mv (.c (.int .i64 0)))⟩]) .ret))) .skip)) (.seq (.ops [⟨(some 61), none, (.mv (.t 11))⟩, ⟨(some 62), none, (.mv (.t 12))⟩, ⟨(some 63), none, (.ix 4 (.t 61) (.t 62))⟩, ⟨(some 13), none, (.mv (.t 63))⟩]) (.seq (.seq (.ops [⟨(some 64), none, (.mv (.t 13))⟩, ⟨(some 65), none, (.nck (.t 64))⟩, ⟨(some 66), none, (.fld 3 (.t 65))⟩, ⟨(some 67), none, (.ld false 1 (.t 66))⟩, ⟨(some 68), none, (.mv (.t 3))⟩, ⟨(some 69), none, (.bin .add (.t 67) (.t 68))⟩, ⟨(some 70), none, (.bin .gtr (.t 69) (.c (.int .i64 200)))⟩, ⟨(some 71), none, (.mv (.t 70))⟩, ⟨(some 72), (some (71, false)), (.mv (.t 13))⟩, ⟨(some 73), (some (71, false)), (.nck (.t 72))⟩, ⟨(some 74), (some (71, false)), (.fld 2 (.t 73))⟩, ⟨(some 75), (some (71, false)), (.ld false 1 (.t 74))⟩, ⟨(some 76), (some (71, false)), (.mv (.t 3))⟩, ⟨(some 77), (some (71, false)), (.bin .add (.t 75) (.t 76))⟩, ⟨(some 78), (some (71, false)), (.bin .gtr (.t 77) (.c (.int .i64 1000000000000)))⟩, ⟨(some 79), none, (.pick (.t 71) (.c (.bool true)) (.t 78))⟩]) (.cond (.t 79) (.seq (.ops [⟨(some 8), none, (.mv (.c .e0))⟩, ⟨(some 9), none, (.mv (.c (.int .i64 29)))⟩]) .ret) .skip)) (.seq (.ops [⟨(some 80), none, (.mv (.t 13))⟩, ⟨(some 81), none, (.nck (.t 80))⟩, ⟨(some 82), none, (.fld 2 (.t 81))⟩, ⟨(some 83), none, (.ld false 1 (.t 82))⟩, ⟨(some 84), none, (.mv (.t 3))⟩, ⟨(some 85), none, (.bin .add (.t 83) (.t 84))⟩, ⟨(some 86), none, (.nck (.t 80))⟩, ⟨(some 87), none, (.fld 2 (.t 86))⟩, ⟨none, none, (.sto 1 (.t 87) (.t 85))⟩]) (.seq (.ops [⟨(some 88), none, (.mv (.t 13))⟩, ⟨(some 89), none, (.nck (.t 88))⟩, ⟨(some 90), none, (.fld 3 (.t 89))⟩, ⟨(some 91), none, (.ld false 1 (.t 90))⟩, ⟨(some 92), none, (.mv (.t 3))⟩, ⟨(some 93), none, (.bin .add (.t 91) (.t 92))⟩, ⟨(some 94), none, (.nck (.t 88))⟩, ⟨(some 95), none, (.fld 3 (.t 94))⟩, ⟨none, none, (.sto 1 (.t 95) (.t 93))⟩]) (.seq (.ops [⟨(some 96), none, (.mv (.t 11))⟩, ⟨(some 8), none, (.mv (.t 96))⟩, ⟨(some 9), none, (.mv (.c (.int .i64 0)))⟩]) .ret))))))))))))
theorem tr12 : Try.f12.body.bind (trCode Try.prog) = some (strip ac12) := by kernel_rfl
theorem spec12 (l : List OT) (u v : List UInt8) (q : Int) (hb : l.length ≤ 1000) : Spec Try.prog 12 [.fz (.sl 4 (l.map encOT)), .fz (.str u), .fz (.str v), .fz (.int .i64 q)] (.fz (.tup [.sl 4 ((upR l u v q).1.map encOT), .int .i64 (upR l u v q).2])) := by
  refine spec_at (n := 93) (ars := [(.t 8), (.t 9)]) (ac := ac12) Try.func12 (by kernel_rfl) (by kernel_rfl) tr12 (by kernel_rfl) ?_
  unfold ac12
  have h1 : l.length ≤ maxLen := by simp only [maxLen]; omega
  have h2 : l.length * 48 ≤ 140737488355328 := by omega
  by_cases hc0 : chkL l = 0
  case neg =>
    have hup : upR l u v q = ([], chkL l) := by simp [upR, hc0]
    iterate 30 (all_goals (try (first
      | ((with_reducible refine of_kSpec ?_); refine call_fz (spec10 l) rfl ?_)
      | ((with_reducible refine of_kSpec ?_); refine call_fz (spec21 u v) rfl ?_)
      | ((with_reducible refine of_kSpec ?_); refine call_fz (spec26 l u v) rfl ?_)
      | ((with_reducible refine of_kSpec ?_); refine call_ow (spec25 l hb) rfl ?_)
      | (with_reducible refine ite_in (fun _ => ?_) (fun _ => ?_))
      | (with_reducible refine ⟨fun _ => ?_, fun _ => ?_⟩)
      | (with_reducible refine And.intro ?_ ?_)
      | (with_reducible intro _)
      | (with_reducible exact is_in _)
      | (simp -implicitDefEqProofs only [SD, SF, SL, e_nf, reduceCtorEq, implies_true, ↓reduceIte, Nat.reduceEqDiff, Nat.reduceAdd, Nat.reduceMul, Nat.reduceSub, Nat.reduceLeDiff, Nat.reduceLT, Int.reduceLT, Int.reduceLE, Int.reduceEq, Int.reduceToNat, Int.reduceAdd, Int.reduceSub, Int.reduceNeg, Int.reduceBEq, Int.reduceBNe, Nat.reduceBEq, Int.cast_ofNat_Int, decide_true, decide_false, ne_eq, eq_self_iff_true, beq_eq_false_iff_ne, bne_iff_ne, List.replicate, encOT, addO, *]))))
    all_goals ((rw [hup]; first | rfl | exact .inl rfl | (simp_all; done)))
  by_cases hn0 : nameD u v = true
  case neg =>
    have hup : upR l u v q = ([], 3) := by simp [upR, hc0, hn0]
    iterate 30 (all_goals (try (first
      | ((with_reducible refine of_kSpec ?_); refine call_fz (spec10 l) rfl ?_)
      | ((with_reducible refine of_kSpec ?_); refine call_fz (spec21 u v) rfl ?_)
      | ((with_reducible refine of_kSpec ?_); refine call_fz (spec26 l u v) rfl ?_)
      | ((with_reducible refine of_kSpec ?_); refine call_ow (spec25 l hb) rfl ?_)
      | (with_reducible refine ite_in (fun _ => ?_) (fun _ => ?_))
      | (with_reducible refine ⟨fun _ => ?_, fun _ => ?_⟩)
      | (with_reducible refine And.intro ?_ ?_)
      | (with_reducible intro _)
      | (with_reducible exact is_in _)
      | (simp -implicitDefEqProofs only [SD, SF, SL, e_nf, reduceCtorEq, implies_true, ↓reduceIte, Nat.reduceEqDiff, Nat.reduceAdd, Nat.reduceMul, Nat.reduceSub, Nat.reduceLeDiff, Nat.reduceLT, Int.reduceLT, Int.reduceLE, Int.reduceEq, Int.reduceToNat, Int.reduceAdd, Int.reduceSub, Int.reduceNeg, Int.reduceBEq, Int.reduceBNe, Nat.reduceBEq, Int.cast_ofNat_Int, decide_true, decide_false, ne_eq, eq_self_iff_true, beq_eq_false_iff_ne, bne_iff_ne, List.replicate, encOT, addO, *]))))
    all_goals ((rw [hup]; first | rfl | exact .inl rfl | (simp_all; done)))
  by_cases hq0 : q < 1
  case pos =>
    have hup : upR l u v q = ([], 2) := by simp [upR, hc0, hn0, hq0]
    iterate 30 (all_goals (try (first
      | ((with_reducible refine of_kSpec ?_); refine call_fz (spec10 l) rfl ?_)
      | ((with_reducible refine of_kSpec ?_); refine call_fz (spec21 u v) rfl ?_)
      | ((with_reducible refine of_kSpec ?_); refine call_fz (spec26 l u v) rfl ?_)
      | ((with_reducible refine of_kSpec ?_); refine call_ow (spec25 l hb) rfl ?_)
      | (with_reducible refine ite_in (fun _ => ?_) (fun _ => ?_))
      | (with_reducible refine ⟨fun _ => ?_, fun _ => ?_⟩)
      | (with_reducible refine And.intro ?_ ?_)
      | (with_reducible intro _)
      | (with_reducible exact is_in _)
      | (simp -implicitDefEqProofs only [SD, SF, SL, e_nf, reduceCtorEq, implies_true, ↓reduceIte, Nat.reduceEqDiff, Nat.reduceAdd, Nat.reduceMul, Nat.reduceSub, Nat.reduceLeDiff, Nat.reduceLT, Int.reduceLT, Int.reduceLE, Int.reduceEq, Int.reduceToNat, Int.reduceAdd, Int.reduceSub, Int.reduceNeg, Int.reduceBEq, Int.reduceBNe, Nat.reduceBEq, Int.cast_ofNat_Int, decide_true, decide_false, ne_eq, eq_self_iff_true, beq_eq_false_iff_ne, bne_iff_ne, List.replicate, encOT, addO, *]))))
    all_goals ((rw [hup]; first | rfl | exact .inl rfl | (simp_all; done)))
  by_cases hq1 : 100 < q
  case pos =>
    have hup : upR l u v q = ([], 2) := by simp [upR, hc0, hn0, hq1]
    iterate 30 (all_goals (try (first
      | ((with_reducible refine of_kSpec ?_); refine call_fz (spec10 l) rfl ?_)
      | ((with_reducible refine of_kSpec ?_); refine call_fz (spec21 u v) rfl ?_)
      | ((with_reducible refine of_kSpec ?_); refine call_fz (spec26 l u v) rfl ?_)
      | ((with_reducible refine of_kSpec ?_); refine call_ow (spec25 l hb) rfl ?_)
      | (with_reducible refine ite_in (fun _ => ?_) (fun _ => ?_))
      | (with_reducible refine ⟨fun _ => ?_, fun _ => ?_⟩)
      | (with_reducible refine And.intro ?_ ?_)
      | (with_reducible intro _)
      | (with_reducible exact is_in _)
      | (simp -implicitDefEqProofs only [SD, SF, SL, e_nf, reduceCtorEq, implies_true, ↓reduceIte, Nat.reduceEqDiff, Nat.reduceAdd, Nat.reduceMul, Nat.reduceSub, Nat.reduceLeDiff, Nat.reduceLT, Int.reduceLT, Int.reduceLE, Int.reduceEq, Int.reduceToNat, Int.reduceAdd, Int.reduceSub, Int.reduceNeg, Int.reduceBEq, Int.reduceBNe, Nat.reduceBEq, Int.cast_ofNat_Int, decide_true, decide_false, ne_eq, eq_self_iff_true, beq_eq_false_iff_ne, bne_iff_ne, List.replicate, encOT, addO, *]))))
    all_goals ((rw [hup]; first | rfl | exact .inl rfl | (simp_all; done)))
  have hq2 : ¬ (q < 1 ∨ 100 < q) := by omega
  rcases place_cases l u v 0 with ⟨hp, hf⟩ | ⟨pre, x, rest, he, hp, hf, hu, hsv, hnm⟩
  · have hup : upR l u v q = (insL l ⟨u, v, q, q⟩, 0) := by simp only [upR, hc0, hn0, hf]; simp [hq2]
    clear hq2
    iterate 14 (all_goals (try (first
      | ((with_reducible refine of_kSpec ?_); refine call_fz (spec10 l) rfl ?_)
      | ((with_reducible refine of_kSpec ?_); refine call_fz (spec21 u v) rfl ?_)
      | ((with_reducible refine of_kSpec ?_); refine call_fz (spec26 l u v) rfl ?_)
      | ((with_reducible refine of_kSpec ?_); refine call_ow (spec25 l hb) rfl ?_)
      | (with_reducible refine ite_in (fun _ => ?_) (fun _ => ?_))
      | (with_reducible refine ⟨fun _ => ?_, fun _ => ?_⟩)
      | (with_reducible refine And.intro ?_ ?_)
      | (with_reducible intro _)
      | (with_reducible exact is_in _)
      | (simp -implicitDefEqProofs only [SD, SF, SL, e_nf, reduceCtorEq, implies_true, ↓reduceIte, Nat.reduceEqDiff, Nat.reduceAdd, Nat.reduceMul, Nat.reduceSub, Nat.reduceLeDiff, Nat.reduceLT, Int.reduceLT, Int.reduceLE, Int.reduceEq, Int.reduceToNat, Int.reduceAdd, Int.reduceSub, Int.reduceNeg, Int.reduceBEq, Int.reduceBNe, Nat.reduceBEq, Int.cast_ofNat_Int, decide_true, decide_false, ne_eq, eq_self_iff_true, beq_eq_false_iff_ne, bne_iff_ne, List.replicate, encOT, addO, *]))))
    all_goals (skip)
    refine loop_q (X := List OT × List OT × Unit) (fun n x => l = x.1 ++ x.2.1 ∧ n = x.2.1.length ∧ (x.1.all (bm (⟨u, v, q, q⟩ : OT)) = true)) (fun x => [(12, .int .i64 x.1.length)]) (fun _ => []) [37, 38, 39, 40, 41, 42, 43, 44, 45, 46, 47, 48, 49, 50, 51] []  (l).length ([], l, ()) ⟨rfl, rfl, by first | rfl | exact all_snoc hI (by simp_all [bm])⟩ ?_ ?_
    · simp -implicitDefEqProofs only [SD, SF, SL, e_nf, reduceCtorEq, implies_true, ↓reduceIte, Nat.reduceEqDiff, Nat.reduceAdd, Nat.reduceMul, Nat.reduceSub, Nat.reduceLeDiff, Nat.reduceLT, Int.reduceLT, Int.reduceLE, Int.reduceEq, Int.reduceToNat, Int.reduceAdd, Int.reduceSub, Int.reduceNeg, Int.reduceBEq, Int.reduceBNe, Nat.reduceBEq, Int.cast_ofNat_Int, decide_true, decide_false, ne_eq, eq_self_iff_true, beq_eq_false_iff_ne, bne_iff_ne, List.replicate, encOT] <;> simp
    · rintro n ⟨pre, rest, a⟩ ⟨he, rfl, hI⟩
      dsimp only at he hI
      cases rest with
      | nil =>
        obtain rfl : l = pre := by simpa using he
        clear he
        have hlt : ¬ (((l).length : Int) < ((l).length : Int)) := Int.lt_irrefl _
        iterate 30 (all_goals (try (first
          | ((with_reducible refine of_kSpecO ?_); refine callO_ow (ks := [30, 59]) (spec27 (l.map encOT) (encOT (⟨u, v, q, q⟩ : OT)) l.length (by simp) (by simpa using hb)) (by repeat (first | exact KArgs.nil | refine KArgs.fz rfl ?_ | refine KArgs.own rfl rfl ?_)) rfl ?_)
          | (with_reducible refine ite_in (fun _ => ?_) (fun _ => ?_))
          | (with_reducible refine ⟨fun _ => ?_, fun _ => ?_⟩)
          | (with_reducible refine And.intro ?_ ?_)
          | (with_reducible intro _)
          | (with_reducible exact is_in _)
          | (simp -implicitDefEqProofs only [SD, SF, SL, e_nf, reduceCtorEq, implies_true, ↓reduceIte, Nat.reduceEqDiff, Nat.reduceAdd, Nat.reduceMul, Nat.reduceSub, Nat.reduceLeDiff, Nat.reduceLT, Int.reduceLT, Int.reduceLE, Int.reduceEq, Int.reduceToNat, Int.reduceAdd, Int.reduceSub, Int.reduceNeg, Int.reduceBEq, Int.reduceBNe, Nat.reduceBEq, Int.cast_ofNat_Int, decide_true, decide_false, ne_eq, eq_self_iff_true, beq_eq_false_iff_ne, bne_iff_ne, List.replicate, encOT, encOT, *]))))
        all_goals ((try rw [hup]) <;> (rw [ins_at_end hI]; first | exact .inl rfl | rfl))

      | cons x rest =>
        have hlt := cut_lt he
        have hx := cutD encOT he
        simp only [encOT] at hx
        simp -implicitDefEqProofs only [SD, SF, SL, e_nf, reduceCtorEq, implies_true, ↓reduceIte, Nat.reduceEqDiff, Nat.reduceAdd, Nat.reduceMul, Nat.reduceSub, Nat.reduceLeDiff, Nat.reduceLT, Int.reduceLT, Int.reduceLE, Int.reduceEq, Int.reduceToNat, Int.reduceAdd, Int.reduceSub, Int.reduceNeg, Int.reduceBEq, Int.reduceBNe, Nat.reduceBEq, Int.cast_ofNat_Int, decide_true, decide_false, ne_eq, eq_self_iff_true, beq_eq_false_iff_ne, bne_iff_ne, List.replicate, encOT, hlt]
        intro hl
        have hw := wrap_len (n := pre.length) (m := (l).length) (cut_lt' he) (by simpa using hl)
        replace he := Hd.mk he
        iterate 30 (all_goals (try (first
          | ((with_reducible refine of_kSpecO ?_); refine callO_ow (ks := [30, 59]) (spec27 (l.map encOT) (encOT (⟨u, v, q, q⟩ : OT)) pre.length (by simp; have := cut_lt' he.out; omega) (by simpa using hb)) (by repeat (first | exact KArgs.nil | refine KArgs.fz rfl ?_ | refine KArgs.own rfl rfl ?_)) rfl ?_)
          | ((with_reducible refine back_in rest.length [37, 38, 39, 40, 41, 42, 43, 44, 45, 46, 47, 48, 49, 50, 51] [] (pre ++ [x], rest, a) ?_ ⟨?_, ?_, ?_⟩ ?_)
             · simp
             · exact cut_snoc he.out
             · rfl
             · first | rfl | exact all_snoc hI (by simp_all [bm])
             · first | (simp -implicitDefEqProofs only [SD, SF, SL, e_nf, reduceCtorEq, implies_true, ↓reduceIte, Nat.reduceEqDiff, Nat.reduceAdd, Nat.reduceMul, Nat.reduceSub, Nat.reduceLeDiff, Nat.reduceLT, Int.reduceLT, Int.reduceLE, Int.reduceEq, Int.reduceToNat, Int.reduceAdd, Int.reduceSub, Int.reduceNeg, Int.reduceBEq, Int.reduceBNe, Nat.reduceBEq, Int.cast_ofNat_Int, decide_true, decide_false, ne_eq, eq_self_iff_true, beq_eq_false_iff_ne, bne_iff_ne, List.replicate, encOT] <;> simp <;> done) | (simp -implicitDefEqProofs only [SD, SF, SL, e_nf, reduceCtorEq, implies_true, ↓reduceIte, Nat.reduceEqDiff, Nat.reduceAdd, Nat.reduceMul, Nat.reduceSub, Nat.reduceLeDiff, Nat.reduceLT, Int.reduceLT, Int.reduceLE, Int.reduceEq, Int.reduceToNat, Int.reduceAdd, Int.reduceSub, Int.reduceNeg, Int.reduceBEq, Int.reduceBNe, Nat.reduceBEq, Int.cast_ofNat_Int, decide_true, decide_false, ne_eq, eq_self_iff_true, beq_eq_false_iff_ne, bne_iff_ne, List.replicate, encOT, *] <;> simp_all <;> done))
          | ((with_reducible refine of_kSpec ?_)
             refine call_sub (ds' := [.agg (encOT x), .str u, .str v]) (spec22 x u v) rfl ?_ ?_
             · simp -implicitDefEqProofs only [SD, SF, SL, e_nf, reduceCtorEq, implies_true, ↓reduceIte, Nat.reduceEqDiff, Nat.reduceAdd, Nat.reduceMul, Nat.reduceSub, Nat.reduceLeDiff, Nat.reduceLT, Int.reduceLT, Int.reduceLE, Int.reduceEq, Int.reduceToNat, Int.reduceAdd, Int.reduceSub, Int.reduceNeg, Int.reduceBEq, Int.reduceBNe, Nat.reduceBEq, Int.cast_ofNat_Int, decide_true, decide_false, ne_eq, eq_self_iff_true, beq_eq_false_iff_ne, bne_iff_ne, List.replicate, encOT, *]
               done)
          | (with_reducible refine ite_in (fun _ => ?_) (fun _ => ?_))
          | (with_reducible refine ⟨fun _ => ?_, fun _ => ?_⟩)
          | (with_reducible refine And.intro ?_ ?_)
          | (with_reducible intro _)
          | (with_reducible exact is_in _)
          | (simp -implicitDefEqProofs only [SD, SF, SL, e_nf, reduceCtorEq, implies_true, ↓reduceIte, Nat.reduceEqDiff, Nat.reduceAdd, Nat.reduceMul, Nat.reduceSub, Nat.reduceLeDiff, Nat.reduceLT, Int.reduceLT, Int.reduceLE, Int.reduceEq, Int.reduceToNat, Int.reduceAdd, Int.reduceSub, Int.reduceNeg, Int.reduceBEq, Int.reduceBNe, Nat.reduceBEq, Int.cast_ofNat_Int, decide_true, decide_false, ne_eq, eq_self_iff_true, beq_eq_false_iff_ne, bne_iff_ne, List.replicate, encOT, *]))))
        all_goals ((try rw [hup]) <;> (have hq := ins_at (m := (⟨u, v, q, q⟩ : OT)) he.out hI (by simp_all [bm]); rw [hq]; first | exact .inl rfl | rfl))
  · rw [Nat.zero_add] at hp
    have hx := cutD encOT he
    simp only [encOT] at hx
    have hlt := cut_lt he
    have hlt2 := cut_lt' he
    have hge : ¬ ((pre.length : Int) < 0) := by omega
    have hge2 : (0 : Int) ≤ (pre.length : Int) := by omega
    obtain ⟨hg1, hs1, hl1⟩ := set_facts he
    replace he := Hd.mk he
    replace hsv := Hd.mk hsv
    replace hnm := Hd.mk hnm
    by_cases hl0 : 200 < IntKind.i64.wrap (x.left + q)
    case pos =>
      have hup : upR l u v q = ([], 29) := by simp only [upR, hc0, hn0, hf]; simp [hq2, fullB, hl0]
      clear hq2
      iterate 30 (all_goals (try (first
        | ((with_reducible refine of_kSpec ?_); refine call_fz (spec10 l) rfl ?_)
        | ((with_reducible refine of_kSpec ?_); refine call_fz (spec21 u v) rfl ?_)
        | ((with_reducible refine of_kSpec ?_); refine call_fz (spec26 l u v) rfl ?_)
        | ((with_reducible refine of_kSpec ?_); refine call_ow (spec25 l hb) rfl ?_)
        | (with_reducible refine ite_in (fun _ => ?_) (fun _ => ?_))
        | (with_reducible refine ⟨fun _ => ?_, fun _ => ?_⟩)
        | (with_reducible refine And.intro ?_ ?_)
        | (with_reducible intro _)
        | (with_reducible exact is_in _)
        | (simp -implicitDefEqProofs only [SD, SF, SL, e_nf, reduceCtorEq, implies_true, ↓reduceIte, Nat.reduceEqDiff, Nat.reduceAdd, Nat.reduceMul, Nat.reduceSub, Nat.reduceLeDiff, Nat.reduceLT, Int.reduceLT, Int.reduceLE, Int.reduceEq, Int.reduceToNat, Int.reduceAdd, Int.reduceSub, Int.reduceNeg, Int.reduceBEq, Int.reduceBNe, Nat.reduceBEq, Int.cast_ofNat_Int, decide_true, decide_false, ne_eq, eq_self_iff_true, beq_eq_false_iff_ne, bne_iff_ne, List.replicate, encOT, addO, *]))))
      all_goals ((rw [hup]; first | rfl | exact .inl rfl | (simp_all; done)))
    by_cases hl2 : 1000000000000 < IntKind.i64.wrap (x.next + q)
    case pos =>
      have hup : upR l u v q = ([], 29) := by simp only [upR, hc0, hn0, hf]; simp [hq2, fullB, hl2]
      clear hq2
      iterate 30 (all_goals (try (first
        | ((with_reducible refine of_kSpec ?_); refine call_fz (spec10 l) rfl ?_)
        | ((with_reducible refine of_kSpec ?_); refine call_fz (spec21 u v) rfl ?_)
        | ((with_reducible refine of_kSpec ?_); refine call_fz (spec26 l u v) rfl ?_)
        | ((with_reducible refine of_kSpec ?_); refine call_ow (spec25 l hb) rfl ?_)
        | (with_reducible refine ite_in (fun _ => ?_) (fun _ => ?_))
        | (with_reducible refine ⟨fun _ => ?_, fun _ => ?_⟩)
        | (with_reducible refine And.intro ?_ ?_)
        | (with_reducible intro _)
        | (with_reducible exact is_in _)
        | (simp -implicitDefEqProofs only [SD, SF, SL, e_nf, reduceCtorEq, implies_true, ↓reduceIte, Nat.reduceEqDiff, Nat.reduceAdd, Nat.reduceMul, Nat.reduceSub, Nat.reduceLeDiff, Nat.reduceLT, Int.reduceLT, Int.reduceLE, Int.reduceEq, Int.reduceToNat, Int.reduceAdd, Int.reduceSub, Int.reduceNeg, Int.reduceBEq, Int.reduceBNe, Nat.reduceBEq, Int.cast_ofNat_Int, decide_true, decide_false, ne_eq, eq_self_iff_true, beq_eq_false_iff_ne, bne_iff_ne, List.replicate, encOT, addO, *]))))
      all_goals ((rw [hup]; first | rfl | exact .inl rfl | (simp_all; done)))
    have hup : upR l u v q = (pre ++ addO q x :: rest, 0) := by simp only [upR, hc0, hn0, hf]; simp [hq2, fullB, hl0, hl2, hu]
    clear hq2
    iterate 40 (all_goals (try (first
      | ((with_reducible refine of_kSpec ?_); refine call_fz (spec10 l) rfl ?_)
      | ((with_reducible refine of_kSpec ?_); refine call_fz (spec21 u v) rfl ?_)
      | ((with_reducible refine of_kSpec ?_); refine call_fz (spec26 l u v) rfl ?_)
      | ((with_reducible refine of_kSpec ?_); refine call_ow (spec25 l hb) rfl ?_)
      | (with_reducible refine ite_in (fun _ => ?_) (fun _ => ?_))
      | (with_reducible refine ⟨fun _ => ?_, fun _ => ?_⟩)
      | (with_reducible refine And.intro ?_ ?_)
      | (with_reducible intro _)
      | (with_reducible exact is_in _)
      | (simp -implicitDefEqProofs only [SD, SF, SL, e_nf, reduceCtorEq, implies_true, ↓reduceIte, Nat.reduceEqDiff, Nat.reduceAdd, Nat.reduceMul, Nat.reduceSub, Nat.reduceLeDiff, Nat.reduceLT, Int.reduceLT, Int.reduceLE, Int.reduceEq, Int.reduceToNat, Int.reduceAdd, Int.reduceSub, Int.reduceNeg, Int.reduceBEq, Int.reduceBNe, Nat.reduceBEq, Int.cast_ofNat_Int, decide_true, decide_false, ne_eq, eq_self_iff_true, beq_eq_false_iff_ne, bne_iff_ne, List.replicate, encOT, addO, *]))))
    all_goals ((try rw [hup]) <;> (first | rfl | (have hst := set_at he.out (addO q x); simp only [addO] at hst; rw [hst]; first | exact .inl rfl | rfl | (simp [encOT]; done))))


end Go.Proofs.Ytcjlkbffmggekaa.E
