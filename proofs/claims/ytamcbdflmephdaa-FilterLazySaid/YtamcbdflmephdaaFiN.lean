/-
  FiN: walks of functions of the program at data level.
-/
import Derived.Test.YtamcbdflmephdaaProg
import Derived.Test.YtamcbdflmephdaaEngZ
import Derived.Test.YtamcbdflmephdaaFiM
import Derived.KernelRfl
set_option linter.unusedVariables false
set_option linter.unusedSimpArgs false
namespace Go.Proofs.Ytamcbdflmephdaa.E
open Go
set_option maxHeartbeats 4000000
set_option maxRecDepth 100000
set_option linter.unusedSimpArgs false
set_option linter.unusedVariables false
attribute [local congr] c_wp c_ops c_op c_opS c_run c_runS c_dt c_seq c_blk c_loop c_S c_put c_bind c_mv c_pick c_nt c_ng c_bin c_binI c_binS c_beq c_B c_eqa c_hd c_cells c_blkK c_box c_vec c_mp c_nck c_mks c_appn c_mkm c_mput c_mlk c_mrm c_take c_ld c_ldF c_cellsK c_st c_fld c_fldv c_ix c_ixp c_ixv c_ixs c_sub c_subs c_len c_lens c_src c_dst c_ow c_app c_ext c_mm c_conv c_str c_isn c_fill c_rows c_boxo c_frz c_frzO c_frzA c_frzV c_spec c_specO c_opsP c_opP c_runP c_specP c_Z c_qretP c_fz c_fn c_gv c_cond c_res1 c_resL c_ret c_qret c_ite c_unr c_nx c_bk c_cut c_is
attribute [local irreducible] dwp

theorem chk1 {f : Flt} (h : (f.kinds ++ f.nots).all knB = false) : chkR f = 1 := by simp only [chkR, h, if_true]
theorem chk3 {f : Flt} (h : (f.kinds ++ f.nots).all knB = true) (h1 : ndB f.kinds = true) (h2 : ndB f.nots = true) (h3 : f.senders.all usB = false) : chkR f = 3 := by simp [chkR, h, h1, h2, h3]
theorem chk4 {f : Flt} (h : (f.kinds ++ f.nots).all knB = true) (h1 : (ndB f.kinds && ndB f.nots) = false) : chkR f = 4 := by simp [chkR, h, h1]
theorem chk5 {f : Flt} (h : (f.kinds ++ f.nots).all knB = true) (h1 : ndB f.kinds = true) (h2 : ndB f.nots = true) (h3 : f.senders.all usB = true) (h4 : ndB f.senders = false) : chkR f = 4 := by simp [chkR, h, h1, h2, h3, h4]
theorem chk6 {f : Flt} (h : (f.kinds ++ f.nots).all knB = true) (h1 : ndB f.kinds = true) (h2 : ndB f.nots = true) (h3 : f.senders.all usB = true) (h4 : ndB f.senders = true) : chkR f = if f.limit < 1 ∨ 100 < f.limit then 2 else 0 := by simp [chkR, h, h1, h2, h3, h4]
def ac11 : AC := (.seq (.ops [⟨(some 1), none, (.box (.t 0))⟩, ⟨(some 2), none, (.mv (.c (.int .i64 0)))⟩]) (.seq (.seq (.ops [⟨(some 7), none, (.fld 0 (.t 1))⟩, ⟨(some 8), none, (.ld false 1 (.t 7))⟩, ⟨(some 9), none, (.fld 1 (.t 1))⟩, ⟨(some 10), none, (.ld false 1 (.t 9))⟩, ⟨(some 11), none, (.buildSl 22 1 2 [.e0] [(0, (.t 8)), (1, (.t 10))])⟩, ⟨(some 12), none, (.call false 25 [(.t 11)])⟩, ⟨(some 13), none, (.len (.t 12))⟩, ⟨(some 14), none, (.mv (.c (.int .i64 0)))⟩]) (.block 0 (.loop (.seq (.ops [⟨(some 15), none, (.bin .lss (.t 14) (.t 13))⟩]) (.seq (.cond (.t 15) .skip (.exit 0)) (.seq (.block 1 (.seq (.ops [⟨(some 16), none, (.ix 1 (.t 12) (.t 14))⟩, ⟨(some 17), none, (.ld false 1 (.t 16))⟩, ⟨(some 4), none, (.mv (.t 17))⟩]) (.seq (.ops [⟨(some 18), none, (.mv (.t 4))⟩, ⟨(some 19), none, (.call false 26 [(.t 18)])⟩, ⟨(some 20), none, (.nt (.t 19))⟩]) (.cond (.t 20) (.seq (.ops [⟨(some 2), none, (.mv (.c (.int .i64 1)))⟩]) .ret) .skip)))) (.ops [⟨(some 21), none, (.bin .add (.t 14) (.c (.int .i64 1)))⟩, ⟨(some 14), none, (.mv (.t 21))⟩]))))))) (.seq (.seq (.ops [⟨(some 22), none, (.fld 0 (.t 1))⟩, ⟨(some 23), none, (.ld false 1 (.t 22))⟩, ⟨(some 24), none, (.call false 27 [(.t 23)])⟩, ⟨(some 25), none, (.mv (.t 24))⟩, ⟨(some 26), (some (25, false)), (.fld 1 (.t 1))⟩, ⟨(some 27), (some (25, false)), (.ld false 1 (.t 26))⟩, ⟨(some 28), (some (25, false)), (.call false 27 [(.t 27)])⟩, ⟨(some 29), none, (.pick (.t 25) (.c (.bool true)) (.t 28))⟩]) (.cond (.t 29) (.seq (.ops [⟨(some 2), none, (.mv (.c (.int .i64 4)))⟩]) .ret) .skip)) (.seq (.seq (.ops [⟨(some 30), none, (.fld 2 (.t 1))⟩, ⟨(some 31), none, (.ld false 1 (.t 30))⟩, ⟨(some 32), none, (.len (.t 31))⟩, ⟨(some 33), none, (.mv (.c (.int .i64 0)))⟩]) (.block 2 (.loop (.seq (.ops [⟨(some 34), none, (.bin .lss (.t 33) (.t 32))⟩]) (.seq (.cond (.t 34) .skip (.exit 2)) (.seq (.block 3 (.seq (.ops [⟨(some 35), none, (.ix 1 (.t 31) (.t 33))⟩, ⟨(some 36), none, (.ld false 1 (.t 35))⟩, ⟨(some 6), none, (.mv (.t 36))⟩]) (.seq (.ops [⟨(some 37), none, (.mv (.t 6))⟩, ⟨(some 38), none, (.call false 28 [(.t 37)])⟩, ⟨(some 39), none, (.bin .neq (.t 38) (.c (.int .i64 0)))⟩]) (.cond (.t 39) (.seq (.ops [⟨(some 2), none, (.mv (.c (.int .i64 3)))⟩]) .ret) .skip)))) (.ops [⟨(some 40), none, (.bin .add (.t 33) (.c (.int .i64 1)))⟩, ⟨(some 33), none, (.mv (.t 40))⟩]))))))) (.seq (.seq (.ops [⟨(some 41), none, (.fld 2 (.t 1))⟩, ⟨(some 42), none, (.ld false 1 (.t 41))⟩, ⟨(some 43), none, (.call false 29 [(.t 42)])⟩]) (.cond (.t 43) (.seq (.ops [⟨(some 2), none, (.mv (.c (.int .i64 4)))⟩]) .ret) .skip)) (.seq (.seq (.ops [⟨(some 44), none, (.fld 3 (.t 1))⟩, ⟨(some 45), none, (.ld false 1 (.t 44))⟩, ⟨(some 46), none, (.bin .lss (.t 45) (.c (.int .i64 1)))⟩, ⟨(some 47), none, (.mv (.t 46))⟩, ⟨(some 48), (some (47, false)), (.fld 3 (.t 1))⟩, ⟨(some 49), (some (47, false)), (.ld false 1 (.t 48))⟩, ⟨(some 50), (some (47, false)), (.bin .gtr (.t 49) (.c (.int .i64 100)))⟩, ⟨(some 51), none, (.pick (.t 47) (.c (.bool true)) (.t 50))⟩]) (.cond (.t 51) (.seq (.ops [⟨(some 2), none, (.mv (.c (.int .i64 2)))⟩]) .ret) .skip)) (.seq (.ops [⟨(some 2), none, (.mv (.c (.int .i64 0)))⟩]) .ret)))))))
theorem tr11 : Try.f11.body.bind (trCode Try.prog) = some (strip ac11) := by kernel_rfl
theorem spec11 (f : Flt) (hb1 : f.kinds.length ≤ 400) (hb2 : f.nots.length ≤ 400) (hb3 : f.senders.length ≤ 400) : Spec Try.prog 11 [.fz (.agg (encFl f))] (.fz (.int .i64 (chkR f))) := by
  refine spec_at (n := 51) (ars := [(.t 2)]) (ac := ac11) Try.func11 (by kernel_rfl) (by kernel_rfl) tr11 (by kernel_rfl) ?_
  unfold ac11
  have hm1 : (f.kinds ++ f.nots).length ≤ maxLen := by simp [maxLen]; omega
  have hm2 : f.senders.length ≤ maxLen := by simp only [maxLen]; omega
  iterate 8 (all_goals (try (first
    | ((with_reducible refine of_kSpec ?_)
       refine call_sub (ds' := [.sl 1 [[.sl 1 (f.kinds.map encN)], [.sl 1 (f.nots.map encN)]]]) (spec25 f.kinds f.nots hb1 hb2) rfl ?_ ?_
       · simp -implicitDefEqProofs only [SD, SF, SL, e_nf, reduceCtorEq, implies_true, ↓reduceIte, Nat.reduceEqDiff, Nat.reduceAdd, Nat.reduceMul, Nat.reduceSub, Nat.reduceLeDiff, Nat.reduceLT, Int.reduceLT, Int.reduceLE, Int.reduceEq, Int.reduceToNat, Int.reduceAdd, Int.reduceSub, Int.reduceNeg, Int.reduceBEq, Int.reduceBNe, Nat.reduceBEq, Int.cast_ofNat_Int, decide_true, decide_false, ne_eq, eq_self_iff_true, beq_eq_false_iff_ne, bne_iff_ne, List.replicate, encFl]
         done)
    | (with_reducible refine ite_in (fun _ => ?_) (fun _ => ?_))
    | (with_reducible refine ⟨fun _ => ?_, fun _ => ?_⟩)
    | (with_reducible refine And.intro ?_ ?_)
    | (with_reducible intro _)
    | (with_reducible exact is_in _)
    | (simp -implicitDefEqProofs only [SD, SF, SL, e_nf, reduceCtorEq, implies_true, ↓reduceIte, Nat.reduceEqDiff, Nat.reduceAdd, Nat.reduceMul, Nat.reduceSub, Nat.reduceLeDiff, Nat.reduceLT, Int.reduceLT, Int.reduceLE, Int.reduceEq, Int.reduceToNat, Int.reduceAdd, Int.reduceSub, Int.reduceNeg, Int.reduceBEq, Int.reduceBNe, Nat.reduceBEq, Int.cast_ofNat_Int, decide_true, decide_false, ne_eq, eq_self_iff_true, beq_eq_false_iff_ne, bne_iff_ne, List.replicate, encFl, *]))))
  refine loop_q (X := List Int × List Int × Unit) (fun n x => (f.kinds ++ f.nots) = x.1 ++ x.2.1 ∧ n = x.2.1.length ∧ (x.1.all knB = true)) (fun x => [(14, .int .i64 x.1.length)]) (fun _ => []) [2, 4, 15, 16, 17, 18, 19, 20, 21] []  ((f.kinds ++ f.nots)).length ([], (f.kinds ++ f.nots), ()) ⟨rfl, rfl, by first | rfl | exact all_snoc hI (by simp_all)⟩ ?_ ?_
  · simp -implicitDefEqProofs only [SD, SF, SL, e_nf, reduceCtorEq, implies_true, ↓reduceIte, Nat.reduceEqDiff, Nat.reduceAdd, Nat.reduceMul, Nat.reduceSub, Nat.reduceLeDiff, Nat.reduceLT, Int.reduceLT, Int.reduceLE, Int.reduceEq, Int.reduceToNat, Int.reduceAdd, Int.reduceSub, Int.reduceNeg, Int.reduceBEq, Int.reduceBNe, Nat.reduceBEq, Int.cast_ofNat_Int, decide_true, decide_false, ne_eq, eq_self_iff_true, beq_eq_false_iff_ne, bne_iff_ne, List.replicate, encFl] <;> simp
  · rintro n ⟨pre, rest, a⟩ ⟨he, rfl, hI⟩
    dsimp only at he hI
    cases rest with
    | nil =>
      obtain rfl : (f.kinds ++ f.nots) = pre := by simpa using he
      clear he
      have hlt : ¬ ((((f.kinds ++ f.nots)).length : Int) < (((f.kinds ++ f.nots)).length : Int)) := Int.lt_irrefl _
      iterate 30 (all_goals (try (first
        | ((with_reducible refine of_kSpec ?_); refine call_fz (spec26 _) rfl ?_)
        | (with_reducible refine ite_in (fun _ => ?_) (fun _ => ?_))
        | (with_reducible refine ⟨fun _ => ?_, fun _ => ?_⟩)
        | (with_reducible refine And.intro ?_ ?_)
        | (with_reducible intro _)
        | (with_reducible exact is_in _)
        | ((with_reducible refine eq_in ?_); ((have hr := chk1 (all_cut (p := knB) he.out (by simp_all)); simp_all; done)); done)
        | (simp -implicitDefEqProofs only [SD, SF, SL, e_nf, reduceCtorEq, implies_true, ↓reduceIte, Nat.reduceEqDiff, Nat.reduceAdd, Nat.reduceMul, Nat.reduceSub, Nat.reduceLeDiff, Nat.reduceLT, Int.reduceLT, Int.reduceLE, Int.reduceEq, Int.reduceToNat, Int.reduceAdd, Int.reduceSub, Int.reduceNeg, Int.reduceBEq, Int.reduceBNe, Nat.reduceBEq, Int.cast_ofNat_Int, decide_true, decide_false, ne_eq, eq_self_iff_true, beq_eq_false_iff_ne, bne_iff_ne, List.replicate, encFl, *]))))
      by_cases hk : (ndB f.kinds && ndB f.nots) = true
      case neg =>
        have hr : chkR f = 4 := chk4 hI (by simpa using hk)
        have hk' : ¬ (ndB f.kinds = true ∧ ndB f.nots = true) := by simpa using hk
        iterate 30 (all_goals (try (first
          | ((with_reducible refine of_kSpec ?_); refine call_fz (spec27 f.kinds) rfl ?_)
          | ((with_reducible refine of_kSpec ?_); refine call_fz (spec27 f.nots) rfl ?_)
          | (with_reducible refine ite_in (fun _ => ?_) (fun _ => ?_))
          | (with_reducible refine ⟨fun _ => ?_, fun _ => ?_⟩)
          | (with_reducible refine And.intro ?_ ?_)
          | (with_reducible intro _)
          | (with_reducible exact is_in _)
          | (simp -implicitDefEqProofs only [SD, SF, SL, e_nf, reduceCtorEq, implies_true, ↓reduceIte, Nat.reduceEqDiff, Nat.reduceAdd, Nat.reduceMul, Nat.reduceSub, Nat.reduceLeDiff, Nat.reduceLT, Int.reduceLT, Int.reduceLE, Int.reduceEq, Int.reduceToNat, Int.reduceAdd, Int.reduceSub, Int.reduceNeg, Int.reduceBEq, Int.reduceBNe, Nat.reduceBEq, Int.cast_ofNat_Int, decide_true, decide_false, ne_eq, eq_self_iff_true, beq_eq_false_iff_ne, bne_iff_ne, List.replicate, encFl, *]))))
        all_goals (first | (simp_all; done) | grind)
      simp only [Bool.and_eq_true] at hk
      obtain ⟨hk1, hk2⟩ := hk
      iterate 14 (all_goals (try (first
        | ((with_reducible refine of_kSpec ?_); refine call_fz (spec27 f.kinds) rfl ?_)
        | ((with_reducible refine of_kSpec ?_); refine call_fz (spec27 f.nots) rfl ?_)
        | (with_reducible refine ite_in (fun _ => ?_) (fun _ => ?_))
        | (with_reducible refine ⟨fun _ => ?_, fun _ => ?_⟩)
        | (with_reducible refine And.intro ?_ ?_)
        | (with_reducible intro _)
        | (with_reducible exact is_in _)
        | (simp -implicitDefEqProofs only [SD, SF, SL, e_nf, reduceCtorEq, implies_true, ↓reduceIte, Nat.reduceEqDiff, Nat.reduceAdd, Nat.reduceMul, Nat.reduceSub, Nat.reduceLeDiff, Nat.reduceLT, Int.reduceLT, Int.reduceLE, Int.reduceEq, Int.reduceToNat, Int.reduceAdd, Int.reduceSub, Int.reduceNeg, Int.reduceBEq, Int.reduceBNe, Nat.reduceBEq, Int.cast_ofNat_Int, decide_true, decide_false, ne_eq, eq_self_iff_true, beq_eq_false_iff_ne, bne_iff_ne, List.replicate, encFl, *]))))
      refine loop_q (X := List (List UInt8) × List (List UInt8) × Unit) (fun n x => f.senders = x.1 ++ x.2.1 ∧ n = x.2.1.length ∧ (x.1.all usB = true)) (fun x => [(33, .int .i64 x.1.length)]) (fun _ => []) [2, 6, 34, 35, 36, 37, 38, 39, 40] []  (f.senders).length ([], f.senders, ()) ⟨rfl, rfl, by first | rfl | exact all_snoc hI2 (by simp_all)⟩ ?_ ?_
      · simp -implicitDefEqProofs only [SD, SF, SL, e_nf, reduceCtorEq, implies_true, ↓reduceIte, Nat.reduceEqDiff, Nat.reduceAdd, Nat.reduceMul, Nat.reduceSub, Nat.reduceLeDiff, Nat.reduceLT, Int.reduceLT, Int.reduceLE, Int.reduceEq, Int.reduceToNat, Int.reduceAdd, Int.reduceSub, Int.reduceNeg, Int.reduceBEq, Int.reduceBNe, Nat.reduceBEq, Int.cast_ofNat_Int, decide_true, decide_false, ne_eq, eq_self_iff_true, beq_eq_false_iff_ne, bne_iff_ne, List.replicate, encFl] <;> simp
      · rintro n ⟨pre2, rest2, a2⟩ ⟨he2, rfl, hI2⟩
        dsimp only at he2 hI2
        cases rest2 with
        | nil =>
          obtain rfl : f.senders = pre2 := by simpa using he2
          clear he2
          have hlt2 : ¬ (((f.senders).length : Int) < ((f.senders).length : Int)) := Int.lt_irrefl _
          iterate 30 (all_goals (try (first
            | ((with_reducible refine of_kSpec ?_); refine call_fz (spec28 _) rfl ?_)
            | (with_reducible refine ite_in (fun _ => ?_) (fun _ => ?_))
            | (with_reducible refine ⟨fun _ => ?_, fun _ => ?_⟩)
            | (with_reducible refine And.intro ?_ ?_)
            | (with_reducible intro _)
            | (with_reducible exact is_in _)
            | ((with_reducible refine eq_in ?_); ((have hr := chk3 hI hk1 hk2 (all_cut (p := usB) he2.out (by simp_all)); simp_all; done)); done)
            | (simp -implicitDefEqProofs only [SD, SF, SL, e_nf, reduceCtorEq, implies_true, ↓reduceIte, Nat.reduceEqDiff, Nat.reduceAdd, Nat.reduceMul, Nat.reduceSub, Nat.reduceLeDiff, Nat.reduceLT, Int.reduceLT, Int.reduceLE, Int.reduceEq, Int.reduceToNat, Int.reduceAdd, Int.reduceSub, Int.reduceNeg, Int.reduceBEq, Int.reduceBNe, Nat.reduceBEq, Int.cast_ofNat_Int, decide_true, decide_false, ne_eq, eq_self_iff_true, beq_eq_false_iff_ne, bne_iff_ne, List.replicate, encFl, *]))))
          by_cases hsn : ndB f.senders = true
          case neg =>
            have hr : chkR f = 4 := chk5 hI hk1 hk2 hI2 (by simpa using hsn)
            iterate 30 (all_goals (try (first
              | ((with_reducible refine of_kSpec ?_); refine call_fz (spec29 f.senders) rfl ?_)
              | (with_reducible refine ite_in (fun _ => ?_) (fun _ => ?_))
              | (with_reducible refine ⟨fun _ => ?_, fun _ => ?_⟩)
              | (with_reducible refine And.intro ?_ ?_)
              | (with_reducible intro _)
              | (with_reducible exact is_in _)
              | (simp -implicitDefEqProofs only [SD, SF, SL, e_nf, reduceCtorEq, implies_true, ↓reduceIte, Nat.reduceEqDiff, Nat.reduceAdd, Nat.reduceMul, Nat.reduceSub, Nat.reduceLeDiff, Nat.reduceLT, Int.reduceLT, Int.reduceLE, Int.reduceEq, Int.reduceToNat, Int.reduceAdd, Int.reduceSub, Int.reduceNeg, Int.reduceBEq, Int.reduceBNe, Nat.reduceBEq, Int.cast_ofNat_Int, decide_true, decide_false, ne_eq, eq_self_iff_true, beq_eq_false_iff_ne, bne_iff_ne, List.replicate, encFl, *]))))
            all_goals (simp_all)
          have hr := chk6 hI hk1 hk2 hI2 hsn
          clear hI hI2
          by_cases hl1 : f.limit < 1
          case pos =>
            rw [if_pos (.inl hl1)] at hr
            iterate 30 (all_goals (try (first
              | ((with_reducible refine of_kSpec ?_); refine call_fz (spec29 f.senders) rfl ?_)
              | (with_reducible refine ite_in (fun _ => ?_) (fun _ => ?_))
              | (with_reducible refine ⟨fun _ => ?_, fun _ => ?_⟩)
              | (with_reducible refine And.intro ?_ ?_)
              | (with_reducible intro _)
              | (with_reducible exact is_in _)
              | (simp -implicitDefEqProofs only [SD, SF, SL, e_nf, reduceCtorEq, implies_true, ↓reduceIte, Nat.reduceEqDiff, Nat.reduceAdd, Nat.reduceMul, Nat.reduceSub, Nat.reduceLeDiff, Nat.reduceLT, Int.reduceLT, Int.reduceLE, Int.reduceEq, Int.reduceToNat, Int.reduceAdd, Int.reduceSub, Int.reduceNeg, Int.reduceBEq, Int.reduceBNe, Nat.reduceBEq, Int.cast_ofNat_Int, decide_true, decide_false, ne_eq, eq_self_iff_true, beq_eq_false_iff_ne, bne_iff_ne, List.replicate, encFl, *]))))
            all_goals (simp_all)
          by_cases hl2 : 100 < f.limit
          case pos =>
            rw [if_pos (.inr hl2)] at hr
            iterate 30 (all_goals (try (first
              | ((with_reducible refine of_kSpec ?_); refine call_fz (spec29 f.senders) rfl ?_)
              | (with_reducible refine ite_in (fun _ => ?_) (fun _ => ?_))
              | (with_reducible refine ⟨fun _ => ?_, fun _ => ?_⟩)
              | (with_reducible refine And.intro ?_ ?_)
              | (with_reducible intro _)
              | (with_reducible exact is_in _)
              | (simp -implicitDefEqProofs only [SD, SF, SL, e_nf, reduceCtorEq, implies_true, ↓reduceIte, Nat.reduceEqDiff, Nat.reduceAdd, Nat.reduceMul, Nat.reduceSub, Nat.reduceLeDiff, Nat.reduceLT, Int.reduceLT, Int.reduceLE, Int.reduceEq, Int.reduceToNat, Int.reduceAdd, Int.reduceSub, Int.reduceNeg, Int.reduceBEq, Int.reduceBNe, Nat.reduceBEq, Int.cast_ofNat_Int, decide_true, decide_false, ne_eq, eq_self_iff_true, beq_eq_false_iff_ne, bne_iff_ne, List.replicate, encFl, *]))))
            all_goals (simp_all)
          rw [if_neg (by omega)] at hr
          iterate 30 (all_goals (try (first
            | ((with_reducible refine of_kSpec ?_); refine call_fz (spec29 f.senders) rfl ?_)
            | (with_reducible refine ite_in (fun _ => ?_) (fun _ => ?_))
            | (with_reducible refine ⟨fun _ => ?_, fun _ => ?_⟩)
            | (with_reducible refine And.intro ?_ ?_)
            | (with_reducible intro _)
            | (with_reducible exact is_in _)
            | (simp -implicitDefEqProofs only [SD, SF, SL, e_nf, reduceCtorEq, implies_true, ↓reduceIte, Nat.reduceEqDiff, Nat.reduceAdd, Nat.reduceMul, Nat.reduceSub, Nat.reduceLeDiff, Nat.reduceLT, Int.reduceLT, Int.reduceLE, Int.reduceEq, Int.reduceToNat, Int.reduceAdd, Int.reduceSub, Int.reduceNeg, Int.reduceBEq, Int.reduceBNe, Nat.reduceBEq, Int.cast_ofNat_Int, decide_true, decide_false, ne_eq, eq_self_iff_true, beq_eq_false_iff_ne, bne_iff_ne, List.replicate, encFl, *]))))
          all_goals (simp_all)
        | cons x2 rest2 =>
          have hlt2 := cut_lt he2
          have hx2 := cutD encS he2
          simp only [encS] at hx2
          have hw2 := wrap_len (n := pre2.length) (m := (f.senders).length) (cut_lt' he2) hm2
          replace he2 := Hd.mk he2
          iterate 30 (all_goals (try (first
            | ((with_reducible refine back_in rest2.length [2, 6, 34, 35, 36, 37, 38, 39, 40] [] (pre2 ++ [x2], rest2, a2) ?_ ⟨?_, ?_, ?_⟩ ?_)
               · simp
               · exact cut_snoc he2.out
               · rfl
               · first | rfl | exact all_snoc hI2 (by simp_all)
               · first | (simp -implicitDefEqProofs only [SD, SF, SL, e_nf, reduceCtorEq, implies_true, ↓reduceIte, Nat.reduceEqDiff, Nat.reduceAdd, Nat.reduceMul, Nat.reduceSub, Nat.reduceLeDiff, Nat.reduceLT, Int.reduceLT, Int.reduceLE, Int.reduceEq, Int.reduceToNat, Int.reduceAdd, Int.reduceSub, Int.reduceNeg, Int.reduceBEq, Int.reduceBNe, Nat.reduceBEq, Int.cast_ofNat_Int, decide_true, decide_false, ne_eq, eq_self_iff_true, beq_eq_false_iff_ne, bne_iff_ne, List.replicate, encFl] <;> simp <;> done) | (simp -implicitDefEqProofs only [SD, SF, SL, e_nf, reduceCtorEq, implies_true, ↓reduceIte, Nat.reduceEqDiff, Nat.reduceAdd, Nat.reduceMul, Nat.reduceSub, Nat.reduceLeDiff, Nat.reduceLT, Int.reduceLT, Int.reduceLE, Int.reduceEq, Int.reduceToNat, Int.reduceAdd, Int.reduceSub, Int.reduceNeg, Int.reduceBEq, Int.reduceBNe, Nat.reduceBEq, Int.cast_ofNat_Int, decide_true, decide_false, ne_eq, eq_self_iff_true, beq_eq_false_iff_ne, bne_iff_ne, List.replicate, encFl, *] <;> simp_all <;> done))
            | ((with_reducible refine of_kSpec ?_); refine call_fz (spec28 _) rfl ?_)
            | (with_reducible refine ite_in (fun _ => ?_) (fun _ => ?_))
            | (with_reducible refine ⟨fun _ => ?_, fun _ => ?_⟩)
            | (with_reducible refine And.intro ?_ ?_)
            | (with_reducible intro _)
            | (with_reducible exact is_in _)
            | ((with_reducible refine eq_in ?_); ((have hr := chk3 hI hk1 hk2 (all_cut (p := usB) he2.out (by simp_all)); simp_all; done)); done)
            | (simp -implicitDefEqProofs only [SD, SF, SL, e_nf, reduceCtorEq, implies_true, ↓reduceIte, Nat.reduceEqDiff, Nat.reduceAdd, Nat.reduceMul, Nat.reduceSub, Nat.reduceLeDiff, Nat.reduceLT, Int.reduceLT, Int.reduceLE, Int.reduceEq, Int.reduceToNat, Int.reduceAdd, Int.reduceSub, Int.reduceNeg, Int.reduceBEq, Int.reduceBNe, Nat.reduceBEq, Int.cast_ofNat_Int, decide_true, decide_false, ne_eq, eq_self_iff_true, beq_eq_false_iff_ne, bne_iff_ne, List.replicate, encFl, *]))))
    | cons x rest =>
      have hlt := cut_lt he
      have hx := cutD encN he
      simp only [encN] at hx
      have hw := wrap_len (n := pre.length) (m := ((f.kinds ++ f.nots)).length) (cut_lt' he) hm1
      replace he := Hd.mk he
      iterate 30 (all_goals (try (first
        | ((with_reducible refine back_in rest.length [2, 4, 15, 16, 17, 18, 19, 20, 21] [] (pre ++ [x], rest, a) ?_ ⟨?_, ?_, ?_⟩ ?_)
           · simp
           · exact cut_snoc he.out
           · rfl
           · first | rfl | exact all_snoc hI (by simp_all)
           · first | (simp -implicitDefEqProofs only [SD, SF, SL, e_nf, reduceCtorEq, implies_true, ↓reduceIte, Nat.reduceEqDiff, Nat.reduceAdd, Nat.reduceMul, Nat.reduceSub, Nat.reduceLeDiff, Nat.reduceLT, Int.reduceLT, Int.reduceLE, Int.reduceEq, Int.reduceToNat, Int.reduceAdd, Int.reduceSub, Int.reduceNeg, Int.reduceBEq, Int.reduceBNe, Nat.reduceBEq, Int.cast_ofNat_Int, decide_true, decide_false, ne_eq, eq_self_iff_true, beq_eq_false_iff_ne, bne_iff_ne, List.replicate, encFl] <;> simp <;> done) | (simp -implicitDefEqProofs only [SD, SF, SL, e_nf, reduceCtorEq, implies_true, ↓reduceIte, Nat.reduceEqDiff, Nat.reduceAdd, Nat.reduceMul, Nat.reduceSub, Nat.reduceLeDiff, Nat.reduceLT, Int.reduceLT, Int.reduceLE, Int.reduceEq, Int.reduceToNat, Int.reduceAdd, Int.reduceSub, Int.reduceNeg, Int.reduceBEq, Int.reduceBNe, Nat.reduceBEq, Int.cast_ofNat_Int, decide_true, decide_false, ne_eq, eq_self_iff_true, beq_eq_false_iff_ne, bne_iff_ne, List.replicate, encFl, *] <;> simp_all <;> done))
        | ((with_reducible refine of_kSpec ?_); refine call_fz (spec26 _) rfl ?_)
        | (with_reducible refine ite_in (fun _ => ?_) (fun _ => ?_))
        | (with_reducible refine ⟨fun _ => ?_, fun _ => ?_⟩)
        | (with_reducible refine And.intro ?_ ?_)
        | (with_reducible intro _)
        | (with_reducible exact is_in _)
        | ((with_reducible refine eq_in ?_); ((have hr := chk1 (all_cut (p := knB) he.out (by simp_all)); simp_all; done)); done)
        | (simp -implicitDefEqProofs only [SD, SF, SL, e_nf, reduceCtorEq, implies_true, ↓reduceIte, Nat.reduceEqDiff, Nat.reduceAdd, Nat.reduceMul, Nat.reduceSub, Nat.reduceLeDiff, Nat.reduceLT, Int.reduceLT, Int.reduceLE, Int.reduceEq, Int.reduceToNat, Int.reduceAdd, Int.reduceSub, Int.reduceNeg, Int.reduceBEq, Int.reduceBNe, Nat.reduceBEq, Int.cast_ofNat_Int, decide_true, decide_false, ne_eq, eq_self_iff_true, beq_eq_false_iff_ne, bne_iff_ne, List.replicate, encFl, *]))))

end Go.Proofs.Ytamcbdflmephdaa.E
