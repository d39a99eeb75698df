/-
  FiO: walks of functions of the program at data level.
-/
import Derived.Test.YtamcbdflmephdaaProg
import Derived.Test.YtamcbdflmephdaaEngZ
import Derived.Test.YtamcbdflmephdaaFiN
import Derived.KernelRfl
set_option linter.unusedVariables false
set_option linter.unusedSimpArgs false
namespace Go.Proofs.Ytamcbdflmephdaa.E
open Go
set_option maxHeartbeats 4000000
set_option maxRecDepth 100000
set_option linter.unusedSimpArgs false
set_option linter.unusedVariables false
attribute [local congr] c_wp c_ops c_op c_opS c_run c_runS c_dt c_seq c_blk c_loop c_S c_put c_bind c_mv c_pick c_nt c_ng c_bin c_binI c_binS c_beq c_B c_eqa c_hd c_cells c_blkK c_box c_vec c_mp c_nck c_mks c_appn c_mkm c_mput c_mlk c_mrm c_take c_ld c_ldF c_cellsK c_st c_fld c_fldv c_ix c_ixp c_ixv c_ixs c_sub c_subs c_len c_lens c_src c_dst c_ow c_app c_ext c_mm c_conv c_str c_isn c_fill c_rows c_boxo c_frz c_frzO c_frzA c_frzV c_spec c_specO c_opsP c_opP c_runP c_specP c_Z c_qretP c_fz c_fn c_gv c_cond c_res1 c_resL c_ret c_qret c_ite c_unr c_nx c_bk c_cut c_is
attribute [local irreducible] dwp

theorem all_app {l m : List Int} : (l ++ m).all knB = true ↔ l.all knB = true ∧ m.all knB = true := by rw [List.all_append, Bool.and_eq_true]
def ac12 : AC := (.seq (.ops [⟨(some 1), none, (.box (.t 0))⟩, ⟨(some 2), none, (.mv (.c (.int .i64 0)))⟩]) (.fz 1 (.seq (.seq (.ops [⟨(some 5), none, (.fld 0 (.t 1))⟩, ⟨(some 6), none, (.ld false 1 (.t 5))⟩, ⟨(some 7), none, (.call false 30 [(.t 6)])⟩, ⟨(some 8), none, (.nt (.t 7))⟩, ⟨(some 9), none, (.mv (.t 8))⟩, ⟨(some 10), (some (9, false)), (.fld 1 (.t 1))⟩, ⟨(some 11), (some (9, false)), (.ld false 1 (.t 10))⟩, ⟨(some 12), (some (9, false)), (.call false 30 [(.t 11)])⟩, ⟨(some 13), (some (9, false)), (.nt (.t 12))⟩, ⟨(some 14), none, (.pick (.t 9) (.c (.bool true)) (.t 13))⟩]) (.cond (.t 14) (.seq (.ops [⟨(some 2), none, (.mv (.c (.int .i64 1)))⟩]) .ret) .skip)) (.seq (.seq (.ops [⟨(some 15), none, (.fld 0 (.t 1))⟩, ⟨(some 16), none, (.ld false 1 (.t 15))⟩, ⟨(some 17), none, (.call false 31 [(.t 16)])⟩, ⟨(some 18), none, (.nt (.t 17))⟩, ⟨(some 19), none, (.mv (.t 18))⟩, ⟨(some 20), (some (19, false)), (.fld 1 (.t 1))⟩, ⟨(some 21), (some (19, false)), (.ld false 1 (.t 20))⟩, ⟨(some 22), (some (19, false)), (.call false 31 [(.t 21)])⟩, ⟨(some 23), (some (19, false)), (.nt (.t 22))⟩, ⟨(some 24), none, (.pick (.t 19) (.c (.bool true)) (.t 23))⟩]) (.cond (.t 24) (.seq (.ops [⟨(some 2), none, (.mv (.c (.int .i64 4)))⟩]) .ret) .skip)) (.seq (.seq (.ops [⟨(some 3), none, (.mv (.c (.int .i64 0)))⟩]) (.block 0 (.loop (.seq (.seq (.ops [⟨(some 25), none, (.mv (.t 3))⟩, ⟨(some 26), none, (.fld 2 (.t 1))⟩, ⟨(some 27), none, (.ld false 1 (.t 26))⟩, ⟨(some 28), none, (.len (.t 27))⟩, ⟨(some 29), none, (.bin .lss (.t 25) (.t 28))⟩]) (.cond (.t 29) .skip (.exit 0))) (.seq (.block 1 (.seq (.ops [⟨(some 32), none, (.fld 2 (.t 1))⟩, ⟨(some 33), none, (.ld false 1 (.t 32))⟩, ⟨(some 34), none, (.mv (.t 3))⟩, ⟨(some 35), none, (.ix 1 (.t 33) (.t 34))⟩, ⟨(some 36), none, (.ld false 1 (.t 35))⟩, ⟨(some 37), none, (.call false 32 [(.t 36)])⟩, ⟨(some 38), none, (.bin .neq (.t 37) (.c (.int .i64 0)))⟩]) (.cond (.t 38) (.seq (.ops [⟨(some 2), none, (.mv (.c (.int .i64 3)))⟩]) .ret) .skip))) (.ops [⟨(some 30), none, (.mv (.t 3))⟩, ⟨(some 31), none, (.bin .add (.t 30) (.c (.int .i64 1)))⟩, ⟨(some 3), none, (.mv (.t 31))⟩])))))) (.seq (.seq (.ops [⟨(some 4), none, (.mv (.c (.int .i64 0)))⟩]) (.block 2 (.loop (.seq (.seq (.ops [⟨(some 39), none, (.mv (.t 4))⟩, ⟨(some 40), none, (.fld 2 (.t 1))⟩, ⟨(some 41), none, (.ld false 1 (.t 40))⟩, ⟨(some 42), none, (.len (.t 41))⟩, ⟨(some 43), none, (.bin .lss (.t 39) (.t 42))⟩]) (.cond (.t 43) .skip (.exit 2))) (.seq (.block 3 (.seq (.draw (.q false ⟨(some 46), none, (.fld 2 (.t 1))⟩ (.q false ⟨(some 47), none, (.ld false 1 (.t 46))⟩ (.q false ⟨(some 48), none, (.mv (.t 4))⟩ (.q true ⟨(some 50), none, (.fld 2 (.t 1))⟩ (.q true ⟨(some 51), none, (.ld false 1 (.t 50))⟩ (.q true ⟨(some 52), none, (.mv (.t 4))⟩ (.q true ⟨(some 53), none, (.ix 1 (.t 51) (.t 52))⟩ (.q true ⟨(some 54), none, (.ld false 1 (.t 53))⟩ (.op ⟨(some 49), none, (.sub 1 (.t 47) none (some (.t 48)) none)⟩ (.op ⟨(some 55), none, (.call false 33 [(.t 49), (.t 54)])⟩ .nil))))))))))) (.cond (.t 55) (.seq (.ops [⟨(some 2), none, (.mv (.c (.int .i64 4)))⟩]) .ret) .skip))) (.ops [⟨(some 44), none, (.mv (.t 4))⟩, ⟨(some 45), none, (.bin .add (.t 44) (.c (.int .i64 1)))⟩, ⟨(some 4), none, (.mv (.t 45))⟩])))))) (.seq (.seq (.ops [⟨(some 56), none, (.fld 3 (.t 1))⟩, ⟨(some 57), none, (.ld false 1 (.t 56))⟩, ⟨(some 58), none, (.bin .lss (.t 57) (.c (.int .i64 1)))⟩, ⟨(some 59), none, (.mv (.t 58))⟩, ⟨(some 60), (some (59, false)), (.fld 3 (.t 1))⟩, ⟨(some 61), (some (59, false)), (.ld false 1 (.t 60))⟩, ⟨(some 62), (some (59, false)), (.bin .gtr (.t 61) (.c (.int .i64 100)))⟩, ⟨(some 63), none, (.pick (.t 59) (.c (.bool true)) (.t 62))⟩]) (.cond (.t 63) (.seq (.ops [⟨(some 2), none, (.mv (.c (.int .i64 2)))⟩]) .ret) .skip)) (.seq (.ops [⟨(some 2), none, (.mv (.c (.int .i64 0)))⟩]) .ret))))))))
theorem tr12 : Try.f12.body.bind (trCode Try.prog) = some (strip ac12) := by kernel_rfl
theorem spec12 (f : Flt) : Spec Try.prog 12 [.fz (.agg (encFl f))] (.fz (.int .i64 (chkR f))) := by
  refine spec_at (n := 63) (ars := [(.t 2)]) (ac := ac12) Try.func12 (by kernel_rfl) (by kernel_rfl) tr12 (by kernel_rfl) ?_
  unfold ac12
  by_cases hI : (f.kinds ++ f.nots).all knB = true
  case neg =>
    have hr := chk1 (f := f) (by simpa using hI)
    have hI' : ¬ (f.kinds.all knB = true ∧ f.nots.all knB = true) := by rw [← all_app]; exact hI
    clear hI
    by_cases hx : f.kinds.all knB = true
    · have hy : f.nots.all knB = false := by simpa [hx] using hI'
      clear hI'
      iterate 30 (all_goals (try (first
        | ((with_reducible refine of_kSpec ?_); refine call_fz (spec30 f.kinds) rfl ?_)
        | ((with_reducible refine of_kSpec ?_); refine call_fz (spec30 f.nots) rfl ?_)
        | (with_reducible refine ite_in (fun _ => ?_) (fun _ => ?_))
        | (with_reducible refine ⟨fun _ => ?_, fun _ => ?_⟩)
        | (with_reducible refine And.intro ?_ ?_)
        | (with_reducible intro _)
        | (with_reducible exact is_in _)
        | (simp -implicitDefEqProofs only [SD, SF, SL, e_nf, reduceCtorEq, implies_true, ↓reduceIte, Nat.reduceEqDiff, Nat.reduceAdd, Nat.reduceMul, Nat.reduceSub, Nat.reduceLeDiff, Nat.reduceLT, Int.reduceLT, Int.reduceLE, Int.reduceEq, Int.reduceToNat, Int.reduceAdd, Int.reduceSub, Int.reduceNeg, Int.reduceBEq, Int.reduceBNe, Nat.reduceBEq, Int.cast_ofNat_Int, decide_true, decide_false, ne_eq, eq_self_iff_true, beq_eq_false_iff_ne, bne_iff_ne, List.replicate, encFl, *]))))
      all_goals (simp_all)
    · clear hI'
      iterate 30 (all_goals (try (first
        | ((with_reducible refine of_kSpec ?_); refine call_fz (spec30 f.kinds) rfl ?_)
        | ((with_reducible refine of_kSpec ?_); refine call_fz (spec30 f.nots) rfl ?_)
        | (with_reducible refine ite_in (fun _ => ?_) (fun _ => ?_))
        | (with_reducible refine ⟨fun _ => ?_, fun _ => ?_⟩)
        | (with_reducible refine And.intro ?_ ?_)
        | (with_reducible intro _)
        | (with_reducible exact is_in _)
        | (simp -implicitDefEqProofs only [SD, SF, SL, e_nf, reduceCtorEq, implies_true, ↓reduceIte, Nat.reduceEqDiff, Nat.reduceAdd, Nat.reduceMul, Nat.reduceSub, Nat.reduceLeDiff, Nat.reduceLT, Int.reduceLT, Int.reduceLE, Int.reduceEq, Int.reduceToNat, Int.reduceAdd, Int.reduceSub, Int.reduceNeg, Int.reduceBEq, Int.reduceBNe, Nat.reduceBEq, Int.cast_ofNat_Int, decide_true, decide_false, ne_eq, eq_self_iff_true, beq_eq_false_iff_ne, bne_iff_ne, List.replicate, encFl, *]))))
      all_goals (simp_all)
  obtain ⟨hx, hy⟩ := all_app.1 hI
  by_cases hk : (ndB f.kinds && ndB f.nots) = true
  case neg =>
    have hr : chkR f = 4 := chk4 hI (by simpa using hk)
    clear hI
    by_cases hz : ndB f.kinds = true
    · have hz2 : ndB f.nots = false := by simpa [hz] using hk
      clear hk
      iterate 30 (all_goals (try (first
        | ((with_reducible refine of_kSpec ?_); refine call_fz (spec30 f.kinds) rfl ?_)
        | ((with_reducible refine of_kSpec ?_); refine call_fz (spec30 f.nots) rfl ?_)
        | ((with_reducible refine of_kSpec ?_); refine call_fz (spec31 f.kinds) rfl ?_)
        | ((with_reducible refine of_kSpec ?_); refine call_fz (spec31 f.nots) rfl ?_)
        | (with_reducible refine ite_in (fun _ => ?_) (fun _ => ?_))
        | (with_reducible refine ⟨fun _ => ?_, fun _ => ?_⟩)
        | (with_reducible refine And.intro ?_ ?_)
        | (with_reducible intro _)
        | (with_reducible exact is_in _)
        | (simp -implicitDefEqProofs only [SD, SF, SL, e_nf, reduceCtorEq, implies_true, ↓reduceIte, Nat.reduceEqDiff, Nat.reduceAdd, Nat.reduceMul, Nat.reduceSub, Nat.reduceLeDiff, Nat.reduceLT, Int.reduceLT, Int.reduceLE, Int.reduceEq, Int.reduceToNat, Int.reduceAdd, Int.reduceSub, Int.reduceNeg, Int.reduceBEq, Int.reduceBNe, Nat.reduceBEq, Int.cast_ofNat_Int, decide_true, decide_false, ne_eq, eq_self_iff_true, beq_eq_false_iff_ne, bne_iff_ne, List.replicate, encFl, *]))))
      all_goals (simp_all)
    · clear hk
      iterate 30 (all_goals (try (first
        | ((with_reducible refine of_kSpec ?_); refine call_fz (spec30 f.kinds) rfl ?_)
        | ((with_reducible refine of_kSpec ?_); refine call_fz (spec30 f.nots) rfl ?_)
        | ((with_reducible refine of_kSpec ?_); refine call_fz (spec31 f.kinds) rfl ?_)
        | ((with_reducible refine of_kSpec ?_); refine call_fz (spec31 f.nots) rfl ?_)
        | (with_reducible refine ite_in (fun _ => ?_) (fun _ => ?_))
        | (with_reducible refine ⟨fun _ => ?_, fun _ => ?_⟩)
        | (with_reducible refine And.intro ?_ ?_)
        | (with_reducible intro _)
        | (with_reducible exact is_in _)
        | (simp -implicitDefEqProofs only [SD, SF, SL, e_nf, reduceCtorEq, implies_true, ↓reduceIte, Nat.reduceEqDiff, Nat.reduceAdd, Nat.reduceMul, Nat.reduceSub, Nat.reduceLeDiff, Nat.reduceLT, Int.reduceLT, Int.reduceLE, Int.reduceEq, Int.reduceToNat, Int.reduceAdd, Int.reduceSub, Int.reduceNeg, Int.reduceBEq, Int.reduceBNe, Nat.reduceBEq, Int.cast_ofNat_Int, decide_true, decide_false, ne_eq, eq_self_iff_true, beq_eq_false_iff_ne, bne_iff_ne, List.replicate, encFl, *]))))
      all_goals (simp_all)
  simp only [Bool.and_eq_true] at hk
  obtain ⟨hk1, hk2⟩ := hk
  iterate 14 (all_goals (try (first
    | ((with_reducible refine of_kSpec ?_); refine call_fz (spec30 f.kinds) rfl ?_)
    | ((with_reducible refine of_kSpec ?_); refine call_fz (spec30 f.nots) rfl ?_)
    | ((with_reducible refine of_kSpec ?_); refine call_fz (spec31 f.kinds) rfl ?_)
    | ((with_reducible refine of_kSpec ?_); refine call_fz (spec31 f.nots) rfl ?_)
    | (with_reducible refine ite_in (fun _ => ?_) (fun _ => ?_))
    | (with_reducible refine ⟨fun _ => ?_, fun _ => ?_⟩)
    | (with_reducible refine And.intro ?_ ?_)
    | (with_reducible intro _)
    | (with_reducible exact is_in _)
    | (simp -implicitDefEqProofs only [SD, SF, SL, e_nf, reduceCtorEq, implies_true, ↓reduceIte, Nat.reduceEqDiff, Nat.reduceAdd, Nat.reduceMul, Nat.reduceSub, Nat.reduceLeDiff, Nat.reduceLT, Int.reduceLT, Int.reduceLE, Int.reduceEq, Int.reduceToNat, Int.reduceAdd, Int.reduceSub, Int.reduceNeg, Int.reduceBEq, Int.reduceBNe, Nat.reduceBEq, Int.cast_ofNat_Int, decide_true, decide_false, ne_eq, eq_self_iff_true, beq_eq_false_iff_ne, bne_iff_ne, List.replicate, encFl, *]))))
  refine loop_q (X := List (List UInt8) × List (List UInt8) × Unit) (fun n x => f.senders = x.1 ++ x.2.1 ∧ n = x.2.1.length ∧ (x.1.all usB = true)) (fun x => [(3, .int .i64 x.1.length)]) (fun _ => []) [2, 25, 26, 27, 28, 29, 30, 31, 32, 33, 34, 35, 36, 37, 38] []  (f.senders).length ([], f.senders, ()) ⟨rfl, rfl, by first | rfl | exact all_snoc hI2 (by simp_all)⟩ ?_ ?_
  · simp -implicitDefEqProofs only [SD, SF, SL, e_nf, reduceCtorEq, implies_true, ↓reduceIte, Nat.reduceEqDiff, Nat.reduceAdd, Nat.reduceMul, Nat.reduceSub, Nat.reduceLeDiff, Nat.reduceLT, Int.reduceLT, Int.reduceLE, Int.reduceEq, Int.reduceToNat, Int.reduceAdd, Int.reduceSub, Int.reduceNeg, Int.reduceBEq, Int.reduceBNe, Nat.reduceBEq, Int.cast_ofNat_Int, decide_true, decide_false, ne_eq, eq_self_iff_true, beq_eq_false_iff_ne, bne_iff_ne, List.replicate, encFl] <;> simp
  · rintro n ⟨pre2, rest2, a2⟩ ⟨he2, rfl, hI2⟩
    dsimp only at he2 hI2
    cases rest2 with
    | nil =>
      obtain rfl : f.senders = pre2 := by simpa using he2
      clear he2
      have hlt2 : ¬ (((f.senders).length : Int) < ((f.senders).length : Int)) := Int.lt_irrefl _
      iterate 30 (all_goals (try (first
        | ((with_reducible refine of_kSpec ?_); refine call_fz (spec32 _) rfl ?_)
        | (with_reducible refine ite_in (fun _ => ?_) (fun _ => ?_))
        | (with_reducible refine ⟨fun _ => ?_, fun _ => ?_⟩)
        | (with_reducible refine And.intro ?_ ?_)
        | (with_reducible intro _)
        | (with_reducible exact is_in _)
        | ((with_reducible refine eq_in ?_); ((have hr := chk3 hI hk1 hk2 (all_cut (p := usB) he2.out (by simp_all)); simp_all; done)); done)
        | (simp -implicitDefEqProofs only [SD, SF, SL, e_nf, reduceCtorEq, implies_true, ↓reduceIte, Nat.reduceEqDiff, Nat.reduceAdd, Nat.reduceMul, Nat.reduceSub, Nat.reduceLeDiff, Nat.reduceLT, Int.reduceLT, Int.reduceLE, Int.reduceEq, Int.reduceToNat, Int.reduceAdd, Int.reduceSub, Int.reduceNeg, Int.reduceBEq, Int.reduceBNe, Nat.reduceBEq, Int.cast_ofNat_Int, decide_true, decide_false, ne_eq, eq_self_iff_true, beq_eq_false_iff_ne, bne_iff_ne, List.replicate, encFl, *]))))
      iterate 3 (all_goals (try (first
        | (with_reducible refine ite_in (fun _ => ?_) (fun _ => ?_))
        | (with_reducible refine ⟨fun _ => ?_, fun _ => ?_⟩)
        | (with_reducible refine And.intro ?_ ?_)
        | (with_reducible intro _)
        | (with_reducible exact is_in _)
        | (simp -implicitDefEqProofs only [SD, SF, SL, e_nf, reduceCtorEq, implies_true, ↓reduceIte, Nat.reduceEqDiff, Nat.reduceAdd, Nat.reduceMul, Nat.reduceSub, Nat.reduceLeDiff, Nat.reduceLT, Int.reduceLT, Int.reduceLE, Int.reduceEq, Int.reduceToNat, Int.reduceAdd, Int.reduceSub, Int.reduceNeg, Int.reduceBEq, Int.reduceBNe, Nat.reduceBEq, Int.cast_ofNat_Int, decide_true, decide_false, ne_eq, eq_self_iff_true, beq_eq_false_iff_ne, bne_iff_ne, List.replicate, encFl, *]))))
      refine loop_q (X := List (List UInt8) × List (List UInt8) × Unit) (fun n x => f.senders = x.1 ++ x.2.1 ∧ n = x.2.1.length ∧ (x.1.Nodup)) (fun x => [(4, .int .i64 x.1.length)]) (fun _ => []) [2, 39, 40, 41, 42, 43, 44, 45, 46, 47, 48, 49, 50, 51, 52, 53, 54, 55] []  (f.senders).length ([], f.senders, ()) ⟨rfl, rfl, by first | (simp; done) | (rw [nd_snoc]; exact ⟨hI3, by simp_all⟩)⟩ ?_ ?_
      · simp -implicitDefEqProofs only [SD, SF, SL, e_nf, reduceCtorEq, implies_true, ↓reduceIte, Nat.reduceEqDiff, Nat.reduceAdd, Nat.reduceMul, Nat.reduceSub, Nat.reduceLeDiff, Nat.reduceLT, Int.reduceLT, Int.reduceLE, Int.reduceEq, Int.reduceToNat, Int.reduceAdd, Int.reduceSub, Int.reduceNeg, Int.reduceBEq, Int.reduceBNe, Nat.reduceBEq, Int.cast_ofNat_Int, decide_true, decide_false, ne_eq, eq_self_iff_true, beq_eq_false_iff_ne, bne_iff_ne, List.replicate, encFl] <;> simp
      · rintro n ⟨pre3, rest3, a3⟩ ⟨he3, rfl, hI3⟩
        dsimp only at he3 hI3
        cases rest3 with
        | nil =>
          obtain rfl : f.senders = pre3 := by simpa using he3
          clear he3
          have hlt3 : ¬ (((f.senders).length : Int) < ((f.senders).length : Int)) := Int.lt_irrefl _
          iterate 30 (all_goals (try (first
            | ((with_reducible refine of_kSpec ?_)
               refine call_sub (ds' := [.sl 1 (pre3.map encS), .str x3]) (spec33 pre3 x3) rfl ?_ ?_
               · simp -implicitDefEqProofs only [SD, SF, SL, e_nf, reduceCtorEq, implies_true, ↓reduceIte, Nat.reduceEqDiff, Nat.reduceAdd, Nat.reduceMul, Nat.reduceSub, Nat.reduceLeDiff, Nat.reduceLT, Int.reduceLT, Int.reduceLE, Int.reduceEq, Int.reduceToNat, Int.reduceAdd, Int.reduceSub, Int.reduceNeg, Int.reduceBEq, Int.reduceBNe, Nat.reduceBEq, Int.cast_ofNat_Int, decide_true, decide_false, ne_eq, eq_self_iff_true, beq_eq_false_iff_ne, bne_iff_ne, List.replicate, *]
                 done)
            | (with_reducible refine ite_in (fun _ => ?_) (fun _ => ?_))
            | (with_reducible refine ⟨fun _ => ?_, fun _ => ?_⟩)
            | (with_reducible refine And.intro ?_ ?_)
            | (with_reducible intro _)
            | (with_reducible exact is_in _)
            | (simp -implicitDefEqProofs only [SD, SF, SL, e_nf, reduceCtorEq, implies_true, ↓reduceIte, Nat.reduceEqDiff, Nat.reduceAdd, Nat.reduceMul, Nat.reduceSub, Nat.reduceLeDiff, Nat.reduceLT, Int.reduceLT, Int.reduceLE, Int.reduceEq, Int.reduceToNat, Int.reduceAdd, Int.reduceSub, Int.reduceNeg, Int.reduceBEq, Int.reduceBNe, Nat.reduceBEq, Int.cast_ofNat_Int, decide_true, decide_false, ne_eq, eq_self_iff_true, beq_eq_false_iff_ne, bne_iff_ne, List.replicate, encFl, *]))))
          all_goals ((have hsn : ndB f.senders = true := (by simpa [ndB] using hI3); have hr := chk6 hI hk1 hk2 hI2 hsn; rw [hr]; first | rfl | (rw [if_pos (by omega)]; done) | (rw [if_neg (by omega)]; done)))

        | cons x3 rest3 =>
          have hlt3 := cut_lt he3
          have hx3 := cutD encS he3
          simp only [encS] at hx3
          simp -implicitDefEqProofs only [SD, SF, SL, e_nf, reduceCtorEq, implies_true, ↓reduceIte, Nat.reduceEqDiff, Nat.reduceAdd, Nat.reduceMul, Nat.reduceSub, Nat.reduceLeDiff, Nat.reduceLT, Int.reduceLT, Int.reduceLE, Int.reduceEq, Int.reduceToNat, Int.reduceAdd, Int.reduceSub, Int.reduceNeg, Int.reduceBEq, Int.reduceBNe, Nat.reduceBEq, Int.cast_ofNat_Int, decide_true, decide_false, ne_eq, eq_self_iff_true, beq_eq_false_iff_ne, bne_iff_ne, List.replicate, encFl, hlt3]
          intro hl
          have hw3 := wrap_len (n := pre3.length) (m := (f.senders).length) (cut_lt' he3) (by simpa using hl)
          replace he3 := Hd.mk he3
          have htk := take_pre (enc := encS) he3.out
          have hle : (pre3.length : Int) ≤ f.senders.length := by have := cut_lt' he3.out; omega
          have hle2 : pre3.length ≤ f.senders.length := by have := cut_lt' he3.out; omega
          iterate 30 (all_goals (try (first
            | ((with_reducible refine back_in rest3.length [2, 39, 40, 41, 42, 43, 44, 45, 46, 47, 48, 49, 50, 51, 52, 53, 54, 55] [] (pre3 ++ [x3], rest3, a3) ?_ ⟨?_, ?_, ?_⟩ ?_)
               · simp
               · exact cut_snoc he3.out
               · rfl
               · first | (simp; done) | (rw [nd_snoc]; exact ⟨hI3, by simp_all⟩)
               · first | (simp -implicitDefEqProofs only [SD, SF, SL, e_nf, reduceCtorEq, implies_true, ↓reduceIte, Nat.reduceEqDiff, Nat.reduceAdd, Nat.reduceMul, Nat.reduceSub, Nat.reduceLeDiff, Nat.reduceLT, Int.reduceLT, Int.reduceLE, Int.reduceEq, Int.reduceToNat, Int.reduceAdd, Int.reduceSub, Int.reduceNeg, Int.reduceBEq, Int.reduceBNe, Nat.reduceBEq, Int.cast_ofNat_Int, decide_true, decide_false, ne_eq, eq_self_iff_true, beq_eq_false_iff_ne, bne_iff_ne, List.replicate, encFl] <;> simp <;> done) | (simp -implicitDefEqProofs only [SD, SF, SL, e_nf, reduceCtorEq, implies_true, ↓reduceIte, Nat.reduceEqDiff, Nat.reduceAdd, Nat.reduceMul, Nat.reduceSub, Nat.reduceLeDiff, Nat.reduceLT, Int.reduceLT, Int.reduceLE, Int.reduceEq, Int.reduceToNat, Int.reduceAdd, Int.reduceSub, Int.reduceNeg, Int.reduceBEq, Int.reduceBNe, Nat.reduceBEq, Int.cast_ofNat_Int, decide_true, decide_false, ne_eq, eq_self_iff_true, beq_eq_false_iff_ne, bne_iff_ne, List.replicate, encFl, *] <;> simp_all <;> done))
            | ((with_reducible refine of_kSpec ?_)
               refine call_sub (ds' := [.sl 1 (pre3.map encS), .str x3]) (spec33 pre3 x3) rfl ?_ ?_
               · simp -implicitDefEqProofs only [SD, SF, SL, e_nf, reduceCtorEq, implies_true, ↓reduceIte, Nat.reduceEqDiff, Nat.reduceAdd, Nat.reduceMul, Nat.reduceSub, Nat.reduceLeDiff, Nat.reduceLT, Int.reduceLT, Int.reduceLE, Int.reduceEq, Int.reduceToNat, Int.reduceAdd, Int.reduceSub, Int.reduceNeg, Int.reduceBEq, Int.reduceBNe, Nat.reduceBEq, Int.cast_ofNat_Int, decide_true, decide_false, ne_eq, eq_self_iff_true, beq_eq_false_iff_ne, bne_iff_ne, List.replicate, *]
                 done)
            | (with_reducible refine ite_in (fun _ => ?_) (fun _ => ?_))
            | (with_reducible refine ⟨fun _ => ?_, fun _ => ?_⟩)
            | (with_reducible refine And.intro ?_ ?_)
            | (with_reducible intro _)
            | (with_reducible exact is_in _)
            | (simp -implicitDefEqProofs only [SD, SF, SL, e_nf, reduceCtorEq, implies_true, ↓reduceIte, Nat.reduceEqDiff, Nat.reduceAdd, Nat.reduceMul, Nat.reduceSub, Nat.reduceLeDiff, Nat.reduceLT, Int.reduceLT, Int.reduceLE, Int.reduceEq, Int.reduceToNat, Int.reduceAdd, Int.reduceSub, Int.reduceNeg, Int.reduceBEq, Int.reduceBNe, Nat.reduceBEq, Int.cast_ofNat_Int, decide_true, decide_false, ne_eq, eq_self_iff_true, beq_eq_false_iff_ne, bne_iff_ne, List.replicate, encFl, *]))))
          all_goals (first | omega | (have hq0 : ¬ f.senders.Nodup := nd_cut he3.out (by assumption); have hq : ndB f.senders = false := (by simp [ndB, hq0]); have hr := chk5 hI hk1 hk2 hI2 hq; simp_all; done))
    | cons x2 rest2 =>
      have hlt2 := cut_lt he2
      have hx2 := cutD encS he2
      simp only [encS] at hx2
      simp -implicitDefEqProofs only [SD, SF, SL, e_nf, reduceCtorEq, implies_true, ↓reduceIte, Nat.reduceEqDiff, Nat.reduceAdd, Nat.reduceMul, Nat.reduceSub, Nat.reduceLeDiff, Nat.reduceLT, Int.reduceLT, Int.reduceLE, Int.reduceEq, Int.reduceToNat, Int.reduceAdd, Int.reduceSub, Int.reduceNeg, Int.reduceBEq, Int.reduceBNe, Nat.reduceBEq, Int.cast_ofNat_Int, decide_true, decide_false, ne_eq, eq_self_iff_true, beq_eq_false_iff_ne, bne_iff_ne, List.replicate, encFl, hlt2]
      intro hl
      have hw2 := wrap_len (n := pre2.length) (m := (f.senders).length) (cut_lt' he2) (by simpa using hl)
      replace he2 := Hd.mk he2
      iterate 30 (all_goals (try (first
        | ((with_reducible refine back_in rest2.length [2, 25, 26, 27, 28, 29, 30, 31, 32, 33, 34, 35, 36, 37, 38] [] (pre2 ++ [x2], rest2, a2) ?_ ⟨?_, ?_, ?_⟩ ?_)
           · simp
           · exact cut_snoc he2.out
           · rfl
           · first | rfl | exact all_snoc hI2 (by simp_all)
           · first | (simp -implicitDefEqProofs only [SD, SF, SL, e_nf, reduceCtorEq, implies_true, ↓reduceIte, Nat.reduceEqDiff, Nat.reduceAdd, Nat.reduceMul, Nat.reduceSub, Nat.reduceLeDiff, Nat.reduceLT, Int.reduceLT, Int.reduceLE, Int.reduceEq, Int.reduceToNat, Int.reduceAdd, Int.reduceSub, Int.reduceNeg, Int.reduceBEq, Int.reduceBNe, Nat.reduceBEq, Int.cast_ofNat_Int, decide_true, decide_false, ne_eq, eq_self_iff_true, beq_eq_false_iff_ne, bne_iff_ne, List.replicate, encFl] <;> simp <;> done) | (simp -implicitDefEqProofs only [SD, SF, SL, e_nf, reduceCtorEq, implies_true, ↓reduceIte, Nat.reduceEqDiff, Nat.reduceAdd, Nat.reduceMul, Nat.reduceSub, Nat.reduceLeDiff, Nat.reduceLT, Int.reduceLT, Int.reduceLE, Int.reduceEq, Int.reduceToNat, Int.reduceAdd, Int.reduceSub, Int.reduceNeg, Int.reduceBEq, Int.reduceBNe, Nat.reduceBEq, Int.cast_ofNat_Int, decide_true, decide_false, ne_eq, eq_self_iff_true, beq_eq_false_iff_ne, bne_iff_ne, List.replicate, encFl, *] <;> simp_all <;> done))
        | ((with_reducible refine of_kSpec ?_); refine call_fz (spec32 _) rfl ?_)
        | (with_reducible refine ite_in (fun _ => ?_) (fun _ => ?_))
        | (with_reducible refine ⟨fun _ => ?_, fun _ => ?_⟩)
        | (with_reducible refine And.intro ?_ ?_)
        | (with_reducible intro _)
        | (with_reducible exact is_in _)
        | ((with_reducible refine eq_in ?_); ((have hr := chk3 hI hk1 hk2 (all_cut (p := usB) he2.out (by simp_all)); simp_all; done)); done)
        | (simp -implicitDefEqProofs only [SD, SF, SL, e_nf, reduceCtorEq, implies_true, ↓reduceIte, Nat.reduceEqDiff, Nat.reduceAdd, Nat.reduceMul, Nat.reduceSub, Nat.reduceLeDiff, Nat.reduceLT, Int.reduceLT, Int.reduceLE, Int.reduceEq, Int.reduceToNat, Int.reduceAdd, Int.reduceSub, Int.reduceNeg, Int.reduceBEq, Int.reduceBNe, Nat.reduceBEq, Int.cast_ofNat_Int, decide_true, decide_false, ne_eq, eq_self_iff_true, beq_eq_false_iff_ne, bne_iff_ne, List.replicate, encFl, *]))))

end Go.Proofs.Ytamcbdflmephdaa.E
