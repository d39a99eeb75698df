/-
  OnX4: walks of functions of the program at data level.
-/
import Derived.Test.YtcjlkbffmggekaaProg
import Derived.Test.YtcjlkbffmggekaaEngZ
import Derived.Test.YtcjlkbffmggekaaOnX0
import Derived.KernelRfl
set_option linter.unusedVariables false
set_option linter.unusedSimpArgs false
namespace Go.Proofs.Ytcjlkbffmggekaa.E
open Go
set_option maxHeartbeats 4000000
set_option maxRecDepth 100000
set_option linter.unusedSimpArgs false
set_option linter.unusedVariables false
attribute [local congr] c_wp c_ops c_op c_opS c_run c_runS c_dt c_seq c_blk c_loop c_S c_put c_bind c_mv c_pick c_nt c_ng c_bin c_binI c_binS c_beq c_B c_eqa c_hd c_cells c_blkK c_box c_vec c_mp c_nck c_mks c_appn c_mkm c_mput c_mlk c_mrm c_take c_ld c_ldF c_cellsK c_st c_fld c_fldv c_ix c_ixp c_ixv c_ixs c_sub c_subs c_len c_lens c_src c_dst c_ow c_app c_ext c_mm c_conv c_str c_isn c_fill c_rows c_boxo c_frz c_frzO c_frzA c_frzV c_spec c_specO c_opsP c_opP c_runP c_specP c_Z c_qretP c_fz c_fn c_gv c_cond c_res1 c_resL c_ret c_qret c_ite c_unr c_nx c_bk c_cut c_is
attribute [local irreducible] dwp
theorem rdLP (ss pre rest : List Stp) (n : Int) (pu pc du dc : Int) (hb : ss.length ≤ 60) (he0 : ss = pre ++ ⟨false, n⟩ :: rest) (hiv : IvO pre.length pu pc du dc) (Q : AE → DS → Prop) :
    dwp Try.prog bd7 (st7 ss (pre, ⟨false, n⟩ :: rest, .sl 4 ((lst pu pc du dc).map encOT), pu, pc, du, dc)) (kLoop (kBk (R7 ss) (st7 ss) (rest.length + 1)) Q) := by
  have he := Hd.mk he0
  have hlt := cut_lt he0
  have hx := cutD encStp he0
  simp only [encStp] at hx
  have hz1 := cut_lt' he0
  have hi60 : pre.length + 1 ≤ 60 := by omega
  have hw := wrap_len (n := pre.length) (m := ss.length) hz1 (by simp only [maxLen]; omega)
  have hml : ss.length ≤ maxLen := by simp only [maxLen]; omega
  clear he0
  unfold bd7 st7
  by_cases hn : n = 0
  case pos =>
    subst hn
    have hzz : (0 : Int) = 0 := rfl
    by_cases h1 : pc < pu
    case pos =>
      have hr := cl_P hiv h1
      have hr1 : (clR (lst pu pc du dc) nU nP).1 = lst pu (pc + 1) du dc := by rw [hr]
      have hr2 : (clR (lst pu pc du dc) nU nP).2.1 = pc := by rw [hr]
      have hr3 : (clR (lst pu pc du dc) nU nP).2.2 = 0 := by rw [hr]
      have hiv2 : IvO (pre.length + 1) pu (pc + 1) du dc := iv_cp hiv hi60 h1
      have hck := chk_lst hiv2
      have hlp := left_P pu (pc + 1) du dc (by have := hiv2.a; have := hiv2.b; omega)
      have hld := left_D pu (pc + 1) du dc (by have := hiv2.e; have := hiv2.f; omega)
      obtain ⟨i1, i2, i3, i4, i5, i6, i7, i8, i9⟩ := hiv
      clear hr
      have hw0 : IntKind.i64.wrap (pu - (pc + 1)) = pu - (pc + 1) := wrap_in (by omega) (by omega)
      have hw1 : IntKind.i64.wrap (du - dc) = du - dc := wrap_in (by omega) (by omega)
      have hw2 : IntKind.i64.wrap (pc + 1) = pc + 1 := wrap_in (by omega) (by omega)
      iterate 90 (all_goals (try (first
        | ((with_reducible refine back_in rest.length [1, 8, 9, 10, 11, 12, 13, 14, 15, 16, 17, 18, 19, 20, 21, 22, 23, 24, 25, 26, 27, 28, 29, 30, 31, 32, 33, 34, 35, 36, 37, 38, 39, 40, 41, 42, 43, 44, 45, 46, 47, 48, 49, 50, 51, 52, 53, 54, 55, 56, 57, 58, 59, 60, 61, 62, 63, 64, 65, 66, 67, 68, 69, 70, 71, 72, 73, 74, 75, 76, 77, 78, 79, 80, 81, 82, 83, 84, 85, 86, 87, 88, 89, 90, 91, 92, 93, 94, 95, 96, 97, 98, 99, 100, 101, 102, 103, 104, 105, 106, 107, 108, 109, 110, 111, 112, 113, 114, 115, 116, 117, 118, 119, 120, 121, 122, 123, 124, 125, 126, 127, 128, 129, 130, 131, 132, 133, 134, 135, 136, 137, 138, 139, 140, 141, 142, 143, 144, 145, 146, 147, 148, 149, 150, 151, 152, 153, 154, 155, 156, 157, 158, 159, 160, 161] [] (pre ++ [⟨false, 0⟩], rest, .sl 4 ((lst pu (pc + 1) du dc).map encOT), pu, (pc + 1), du, dc) ?_ ⟨?_, ?_, ?_⟩ ?_)
           · simp
           · exact cut_snoc he.out
           · rfl
           · exact ⟨.inr rfl, by rw [List.length_append]; exact hiv2⟩
           · first | (simp -implicitDefEqProofs only [SD, SF, SL, e_nf, reduceCtorEq, implies_true, ↓reduceIte, Nat.reduceEqDiff, Nat.reduceAdd, Nat.reduceMul, Nat.reduceSub, Nat.reduceLeDiff, Nat.reduceLT, Int.reduceLT, Int.reduceLE, Int.reduceEq, Int.reduceToNat, Int.reduceAdd, Int.reduceSub, Int.reduceNeg, Int.reduceBEq, Int.reduceBNe, Nat.reduceBEq, Int.cast_ofNat_Int, decide_true, decide_false, ne_eq, eq_self_iff_true, beq_eq_false_iff_ne, bne_iff_ne, List.replicate, encStp, st7] <;> simp <;> done) | (simp -implicitDefEqProofs only [SD, SF, SL, e_nf, reduceCtorEq, implies_true, ↓reduceIte, Nat.reduceEqDiff, Nat.reduceAdd, Nat.reduceMul, Nat.reduceSub, Nat.reduceLeDiff, Nat.reduceLT, Int.reduceLT, Int.reduceLE, Int.reduceEq, Int.reduceToNat, Int.reduceAdd, Int.reduceSub, Int.reduceNeg, Int.reduceBEq, Int.reduceBNe, Nat.reduceBEq, Int.cast_ofNat_Int, decide_true, decide_false, ne_eq, eq_self_iff_true, beq_eq_false_iff_ne, bne_iff_ne, List.replicate, encStp, st7, *] <;> simp_all <;> done))
        | ((with_reducible refine of_kSpec ?_); refine call_fz (spec15 (lst pu pc du dc) nU nP (Nat.le_trans (lst_len pu pc du dc) (by omega))) rfl ?_)
        | ((with_reducible refine of_kSpec ?_); refine call_fz (spec10 (lst pu (pc + 1) du dc) ) rfl ?_)
        | ((with_reducible refine of_kSpec ?_); refine call_fz (spec17 (lst pu (pc + 1) du dc) nU nP (Nat.le_trans (lst_len pu (pc + 1) du dc) (by omega))) rfl ?_)
        | ((with_reducible refine of_kSpec ?_); refine call_fz (spec17 (lst pu (pc + 1) du dc) nU nD (Nat.le_trans (lst_len pu (pc + 1) du dc) (by omega))) rfl ?_)
        | (with_reducible refine ite_in (fun _ => ?_) (fun _ => ?_))
        | (with_reducible refine ⟨fun _ => ?_, fun _ => ?_⟩)
        | (with_reducible refine And.intro ?_ ?_)
        | (with_reducible intro _)
        | (with_reducible exact is_in _)
        | (simp -implicitDefEqProofs only [SD, SF, SL, e_nf, reduceCtorEq, implies_true, ↓reduceIte, Nat.reduceEqDiff, Nat.reduceAdd, Nat.reduceMul, Nat.reduceSub, Nat.reduceLeDiff, Nat.reduceLT, Int.reduceLT, Int.reduceLE, Int.reduceEq, Int.reduceToNat, Int.reduceAdd, Int.reduceSub, Int.reduceNeg, Int.reduceBEq, Int.reduceBNe, Nat.reduceBEq, Int.cast_ofNat_Int, decide_true, decide_false, ne_eq, eq_self_iff_true, beq_eq_false_iff_ne, bne_iff_ne, List.replicate, encStp, st7, *]))))
      all_goals (first | omega | (simp_all; done) | (simp_all; omega) | trace_state)
    case neg =>
      have hr := cl_P0 hiv h1
      have hr1 : (clR (lst pu pc du dc) nU nP).1 = [] := by rw [hr]
      have hr2 : (clR (lst pu pc du dc) nU nP).2.1 = 0 := by rw [hr]
      have hr3 : (clR (lst pu pc du dc) nU nP).2.2 = 5 := by rw [hr]
      have hiv2 : IvO (pre.length + 1) pu pc du dc := iv_s hiv hi60
      have hck := chk_lst hiv2
      have hlp := left_P pu pc du dc (by have := hiv2.a; have := hiv2.b; omega)
      have hld := left_D pu pc du dc (by have := hiv2.e; have := hiv2.f; omega)
      obtain ⟨i1, i2, i3, i4, i5, i6, i7, i8, i9⟩ := hiv
      clear hr
      have hw0 : IntKind.i64.wrap (pu - pc) = pu - pc := wrap_in (by omega) (by omega)
      have hw1 : IntKind.i64.wrap (du - dc) = du - dc := wrap_in (by omega) (by omega)
      iterate 90 (all_goals (try (first
        | ((with_reducible refine back_in rest.length [1, 8, 9, 10, 11, 12, 13, 14, 15, 16, 17, 18, 19, 20, 21, 22, 23, 24, 25, 26, 27, 28, 29, 30, 31, 32, 33, 34, 35, 36, 37, 38, 39, 40, 41, 42, 43, 44, 45, 46, 47, 48, 49, 50, 51, 52, 53, 54, 55, 56, 57, 58, 59, 60, 61, 62, 63, 64, 65, 66, 67, 68, 69, 70, 71, 72, 73, 74, 75, 76, 77, 78, 79, 80, 81, 82, 83, 84, 85, 86, 87, 88, 89, 90, 91, 92, 93, 94, 95, 96, 97, 98, 99, 100, 101, 102, 103, 104, 105, 106, 107, 108, 109, 110, 111, 112, 113, 114, 115, 116, 117, 118, 119, 120, 121, 122, 123, 124, 125, 126, 127, 128, 129, 130, 131, 132, 133, 134, 135, 136, 137, 138, 139, 140, 141, 142, 143, 144, 145, 146, 147, 148, 149, 150, 151, 152, 153, 154, 155, 156, 157, 158, 159, 160, 161] [] (pre ++ [⟨false, 0⟩], rest, .sl 4 ((lst pu pc du dc).map encOT), pu, pc, du, dc) ?_ ⟨?_, ?_, ?_⟩ ?_)
           · simp
           · exact cut_snoc he.out
           · rfl
           · exact ⟨.inr rfl, by rw [List.length_append]; exact hiv2⟩
           · first | (simp -implicitDefEqProofs only [SD, SF, SL, e_nf, reduceCtorEq, implies_true, ↓reduceIte, Nat.reduceEqDiff, Nat.reduceAdd, Nat.reduceMul, Nat.reduceSub, Nat.reduceLeDiff, Nat.reduceLT, Int.reduceLT, Int.reduceLE, Int.reduceEq, Int.reduceToNat, Int.reduceAdd, Int.reduceSub, Int.reduceNeg, Int.reduceBEq, Int.reduceBNe, Nat.reduceBEq, Int.cast_ofNat_Int, decide_true, decide_false, ne_eq, eq_self_iff_true, beq_eq_false_iff_ne, bne_iff_ne, List.replicate, encStp, st7] <;> simp <;> done) | (simp -implicitDefEqProofs only [SD, SF, SL, e_nf, reduceCtorEq, implies_true, ↓reduceIte, Nat.reduceEqDiff, Nat.reduceAdd, Nat.reduceMul, Nat.reduceSub, Nat.reduceLeDiff, Nat.reduceLT, Int.reduceLT, Int.reduceLE, Int.reduceEq, Int.reduceToNat, Int.reduceAdd, Int.reduceSub, Int.reduceNeg, Int.reduceBEq, Int.reduceBNe, Nat.reduceBEq, Int.cast_ofNat_Int, decide_true, decide_false, ne_eq, eq_self_iff_true, beq_eq_false_iff_ne, bne_iff_ne, List.replicate, encStp, st7, *] <;> simp_all <;> done))
        | ((with_reducible refine of_kSpec ?_); refine call_fz (spec15 (lst pu pc du dc) nU nP (Nat.le_trans (lst_len pu pc du dc) (by omega))) rfl ?_)
        | ((with_reducible refine of_kSpec ?_); refine call_fz (spec10 (lst pu pc du dc) ) rfl ?_)
        | ((with_reducible refine of_kSpec ?_); refine call_fz (spec17 (lst pu pc du dc) nU nP (Nat.le_trans (lst_len pu pc du dc) (by omega))) rfl ?_)
        | ((with_reducible refine of_kSpec ?_); refine call_fz (spec17 (lst pu pc du dc) nU nD (Nat.le_trans (lst_len pu pc du dc) (by omega))) rfl ?_)
        | (with_reducible refine ite_in (fun _ => ?_) (fun _ => ?_))
        | (with_reducible refine ⟨fun _ => ?_, fun _ => ?_⟩)
        | (with_reducible refine And.intro ?_ ?_)
        | (with_reducible intro _)
        | (with_reducible exact is_in _)
        | (simp -implicitDefEqProofs only [SD, SF, SL, e_nf, reduceCtorEq, implies_true, ↓reduceIte, Nat.reduceEqDiff, Nat.reduceAdd, Nat.reduceMul, Nat.reduceSub, Nat.reduceLeDiff, Nat.reduceLT, Int.reduceLT, Int.reduceLE, Int.reduceEq, Int.reduceToNat, Int.reduceAdd, Int.reduceSub, Int.reduceNeg, Int.reduceBEq, Int.reduceBNe, Nat.reduceBEq, Int.cast_ofNat_Int, decide_true, decide_false, ne_eq, eq_self_iff_true, beq_eq_false_iff_ne, bne_iff_ne, List.replicate, encStp, st7, *]))))
      all_goals (first | omega | (simp_all; done) | (simp_all; omega) | trace_state)
  case neg =>
    by_cases h1 : n < 1
    case pos =>
      have hr := up_bad (lst pu pc du dc) nU nP n (chk_lst hiv) nmP (.inl h1)
      have hr1 : (upR (lst pu pc du dc) nU nP n).1 = [] := by rw [hr]
      have hr2 : (upR (lst pu pc du dc) nU nP n).2 = 2 := by rw [hr]
      have hiv2 : IvO (pre.length + 1) pu pc du dc := iv_s hiv hi60
      have hck := chk_lst hiv2
      have hlp := left_P pu pc du dc (by have := hiv2.a; have := hiv2.b; omega)
      have hld := left_D pu pc du dc (by have := hiv2.e; have := hiv2.f; omega)
      obtain ⟨i1, i2, i3, i4, i5, i6, i7, i8, i9⟩ := hiv
      clear hr
      have hw0 : IntKind.i64.wrap (pu - pc) = pu - pc := wrap_in (by omega) (by omega)
      have hw1 : IntKind.i64.wrap (du - dc) = du - dc := wrap_in (by omega) (by omega)
      have hc1 : ¬ (1 ≤ n) := by omega
      iterate 90 (all_goals (try (first
        | ((with_reducible refine back_in rest.length [1, 8, 9, 10, 11, 12, 13, 14, 15, 16, 17, 18, 19, 20, 21, 22, 23, 24, 25, 26, 27, 28, 29, 30, 31, 32, 33, 34, 35, 36, 37, 38, 39, 40, 41, 42, 43, 44, 45, 46, 47, 48, 49, 50, 51, 52, 53, 54, 55, 56, 57, 58, 59, 60, 61, 62, 63, 64, 65, 66, 67, 68, 69, 70, 71, 72, 73, 74, 75, 76, 77, 78, 79, 80, 81, 82, 83, 84, 85, 86, 87, 88, 89, 90, 91, 92, 93, 94, 95, 96, 97, 98, 99, 100, 101, 102, 103, 104, 105, 106, 107, 108, 109, 110, 111, 112, 113, 114, 115, 116, 117, 118, 119, 120, 121, 122, 123, 124, 125, 126, 127, 128, 129, 130, 131, 132, 133, 134, 135, 136, 137, 138, 139, 140, 141, 142, 143, 144, 145, 146, 147, 148, 149, 150, 151, 152, 153, 154, 155, 156, 157, 158, 159, 160, 161] [] (pre ++ [⟨false, n⟩], rest, .sl 4 ((lst pu pc du dc).map encOT), pu, pc, du, dc) ?_ ⟨?_, ?_, ?_⟩ ?_)
           · simp
           · exact cut_snoc he.out
           · rfl
           · exact ⟨.inr rfl, by rw [List.length_append]; exact hiv2⟩
           · first | (simp -implicitDefEqProofs only [SD, SF, SL, e_nf, reduceCtorEq, implies_true, ↓reduceIte, Nat.reduceEqDiff, Nat.reduceAdd, Nat.reduceMul, Nat.reduceSub, Nat.reduceLeDiff, Nat.reduceLT, Int.reduceLT, Int.reduceLE, Int.reduceEq, Int.reduceToNat, Int.reduceAdd, Int.reduceSub, Int.reduceNeg, Int.reduceBEq, Int.reduceBNe, Nat.reduceBEq, Int.cast_ofNat_Int, decide_true, decide_false, ne_eq, eq_self_iff_true, beq_eq_false_iff_ne, bne_iff_ne, List.replicate, encStp, st7] <;> simp <;> done) | (simp -implicitDefEqProofs only [SD, SF, SL, e_nf, reduceCtorEq, implies_true, ↓reduceIte, Nat.reduceEqDiff, Nat.reduceAdd, Nat.reduceMul, Nat.reduceSub, Nat.reduceLeDiff, Nat.reduceLT, Int.reduceLT, Int.reduceLE, Int.reduceEq, Int.reduceToNat, Int.reduceAdd, Int.reduceSub, Int.reduceNeg, Int.reduceBEq, Int.reduceBNe, Nat.reduceBEq, Int.cast_ofNat_Int, decide_true, decide_false, ne_eq, eq_self_iff_true, beq_eq_false_iff_ne, bne_iff_ne, List.replicate, encStp, st7, *] <;> simp_all <;> done))
        | ((with_reducible refine of_kSpec ?_); refine call_fz (spec12 (lst pu pc du dc) nU nP n (Nat.le_trans (lst_len pu pc du dc) (by omega))) rfl ?_)
        | ((with_reducible refine of_kSpec ?_); refine call_fz (spec10 (lst pu pc du dc) ) rfl ?_)
        | ((with_reducible refine of_kSpec ?_); refine call_fz (spec17 (lst pu pc du dc) nU nP (Nat.le_trans (lst_len pu pc du dc) (by omega))) rfl ?_)
        | ((with_reducible refine of_kSpec ?_); refine call_fz (spec17 (lst pu pc du dc) nU nD (Nat.le_trans (lst_len pu pc du dc) (by omega))) rfl ?_)
        | (with_reducible refine ite_in (fun _ => ?_) (fun _ => ?_))
        | (with_reducible refine ⟨fun _ => ?_, fun _ => ?_⟩)
        | (with_reducible refine And.intro ?_ ?_)
        | (with_reducible intro _)
        | (with_reducible exact is_in _)
        | (simp -implicitDefEqProofs only [SD, SF, SL, e_nf, reduceCtorEq, implies_true, ↓reduceIte, Nat.reduceEqDiff, Nat.reduceAdd, Nat.reduceMul, Nat.reduceSub, Nat.reduceLeDiff, Nat.reduceLT, Int.reduceLT, Int.reduceLE, Int.reduceEq, Int.reduceToNat, Int.reduceAdd, Int.reduceSub, Int.reduceNeg, Int.reduceBEq, Int.reduceBNe, Nat.reduceBEq, Int.cast_ofNat_Int, decide_true, decide_false, ne_eq, eq_self_iff_true, beq_eq_false_iff_ne, bne_iff_ne, List.replicate, encStp, st7, *]))))
      all_goals (first | omega | (simp_all; done) | (simp_all; omega) | trace_state)
    replace h1 : 1 ≤ n := by omega
    by_cases h2 : n ≤ 100
    case neg =>
      replace h1 : 100 < n := by omega
      clear h2
      have hr := up_bad (lst pu pc du dc) nU nP n (chk_lst hiv) nmP (.inr h1)
      have hr1 : (upR (lst pu pc du dc) nU nP n).1 = [] := by rw [hr]
      have hr2 : (upR (lst pu pc du dc) nU nP n).2 = 2 := by rw [hr]
      have hiv2 : IvO (pre.length + 1) pu pc du dc := iv_s hiv hi60
      have hck := chk_lst hiv2
      have hlp := left_P pu pc du dc (by have := hiv2.a; have := hiv2.b; omega)
      have hld := left_D pu pc du dc (by have := hiv2.e; have := hiv2.f; omega)
      obtain ⟨i1, i2, i3, i4, i5, i6, i7, i8, i9⟩ := hiv
      clear hr
      have hw0 : IntKind.i64.wrap (pu - pc) = pu - pc := wrap_in (by omega) (by omega)
      have hw1 : IntKind.i64.wrap (du - dc) = du - dc := wrap_in (by omega) (by omega)
      have hc1 : 1 ≤ n := by omega
      have hc3 : ¬ (n ≤ 100) := by omega
      have hc2 : ¬ n = 0 := by omega
      iterate 90 (all_goals (try (first
        | ((with_reducible refine back_in rest.length [1, 8, 9, 10, 11, 12, 13, 14, 15, 16, 17, 18, 19, 20, 21, 22, 23, 24, 25, 26, 27, 28, 29, 30, 31, 32, 33, 34, 35, 36, 37, 38, 39, 40, 41, 42, 43, 44, 45, 46, 47, 48, 49, 50, 51, 52, 53, 54, 55, 56, 57, 58, 59, 60, 61, 62, 63, 64, 65, 66, 67, 68, 69, 70, 71, 72, 73, 74, 75, 76, 77, 78, 79, 80, 81, 82, 83, 84, 85, 86, 87, 88, 89, 90, 91, 92, 93, 94, 95, 96, 97, 98, 99, 100, 101, 102, 103, 104, 105, 106, 107, 108, 109, 110, 111, 112, 113, 114, 115, 116, 117, 118, 119, 120, 121, 122, 123, 124, 125, 126, 127, 128, 129, 130, 131, 132, 133, 134, 135, 136, 137, 138, 139, 140, 141, 142, 143, 144, 145, 146, 147, 148, 149, 150, 151, 152, 153, 154, 155, 156, 157, 158, 159, 160, 161] [] (pre ++ [⟨false, n⟩], rest, .sl 4 ((lst pu pc du dc).map encOT), pu, pc, du, dc) ?_ ⟨?_, ?_, ?_⟩ ?_)
           · simp
           · exact cut_snoc he.out
           · rfl
           · exact ⟨.inr rfl, by rw [List.length_append]; exact hiv2⟩
           · first | (simp -implicitDefEqProofs only [SD, SF, SL, e_nf, reduceCtorEq, implies_true, ↓reduceIte, Nat.reduceEqDiff, Nat.reduceAdd, Nat.reduceMul, Nat.reduceSub, Nat.reduceLeDiff, Nat.reduceLT, Int.reduceLT, Int.reduceLE, Int.reduceEq, Int.reduceToNat, Int.reduceAdd, Int.reduceSub, Int.reduceNeg, Int.reduceBEq, Int.reduceBNe, Nat.reduceBEq, Int.cast_ofNat_Int, decide_true, decide_false, ne_eq, eq_self_iff_true, beq_eq_false_iff_ne, bne_iff_ne, List.replicate, encStp, st7] <;> simp <;> done) | (simp -implicitDefEqProofs only [SD, SF, SL, e_nf, reduceCtorEq, implies_true, ↓reduceIte, Nat.reduceEqDiff, Nat.reduceAdd, Nat.reduceMul, Nat.reduceSub, Nat.reduceLeDiff, Nat.reduceLT, Int.reduceLT, Int.reduceLE, Int.reduceEq, Int.reduceToNat, Int.reduceAdd, Int.reduceSub, Int.reduceNeg, Int.reduceBEq, Int.reduceBNe, Nat.reduceBEq, Int.cast_ofNat_Int, decide_true, decide_false, ne_eq, eq_self_iff_true, beq_eq_false_iff_ne, bne_iff_ne, List.replicate, encStp, st7, *] <;> simp_all <;> done))
        | ((with_reducible refine of_kSpec ?_); refine call_fz (spec12 (lst pu pc du dc) nU nP n (Nat.le_trans (lst_len pu pc du dc) (by omega))) rfl ?_)
        | ((with_reducible refine of_kSpec ?_); refine call_fz (spec10 (lst pu pc du dc) ) rfl ?_)
        | ((with_reducible refine of_kSpec ?_); refine call_fz (spec17 (lst pu pc du dc) nU nP (Nat.le_trans (lst_len pu pc du dc) (by omega))) rfl ?_)
        | ((with_reducible refine of_kSpec ?_); refine call_fz (spec17 (lst pu pc du dc) nU nD (Nat.le_trans (lst_len pu pc du dc) (by omega))) rfl ?_)
        | (with_reducible refine ite_in (fun _ => ?_) (fun _ => ?_))
        | (with_reducible refine ⟨fun _ => ?_, fun _ => ?_⟩)
        | (with_reducible refine And.intro ?_ ?_)
        | (with_reducible intro _)
        | (with_reducible exact is_in _)
        | (simp -implicitDefEqProofs only [SD, SF, SL, e_nf, reduceCtorEq, implies_true, ↓reduceIte, Nat.reduceEqDiff, Nat.reduceAdd, Nat.reduceMul, Nat.reduceSub, Nat.reduceLeDiff, Nat.reduceLT, Int.reduceLT, Int.reduceLE, Int.reduceEq, Int.reduceToNat, Int.reduceAdd, Int.reduceSub, Int.reduceNeg, Int.reduceBEq, Int.reduceBNe, Nat.reduceBEq, Int.cast_ofNat_Int, decide_true, decide_false, ne_eq, eq_self_iff_true, beq_eq_false_iff_ne, bne_iff_ne, List.replicate, encStp, st7, *]))))
      all_goals (first | omega | (simp_all; done) | (simp_all; omega) | trace_state)
    by_cases h3 : pu - pc + n ≤ 200
    case pos =>
      have hr := up_P hiv h1 h2 h3
      have hr1 : (upR (lst pu pc du dc) nU nP n).1 = lst (pu + n) pc du dc := by rw [hr]
      have hr2 : (upR (lst pu pc du dc) nU nP n).2 = 0 := by rw [hr]
      have hiv2 : IvO (pre.length + 1) (pu + n) pc du dc := iv_up hiv hi60 h1 h2 h3
      have hck := chk_lst hiv2
      have hlp := left_P (pu + n) pc du dc (by have := hiv2.a; have := hiv2.b; omega)
      have hld := left_D (pu + n) pc du dc (by have := hiv2.e; have := hiv2.f; omega)
      obtain ⟨i1, i2, i3, i4, i5, i6, i7, i8, i9⟩ := hiv
      clear hr
      have hw0 : IntKind.i64.wrap ((pu + n) - pc) = (pu + n) - pc := wrap_in (by omega) (by omega)
      have hw1 : IntKind.i64.wrap (du - dc) = du - dc := wrap_in (by omega) (by omega)
      have hw2 : IntKind.i64.wrap (pu + n) = pu + n := wrap_in (by omega) (by omega)
      have hw3 : IntKind.i64.wrap (pu - pc) = pu - pc := wrap_in (by omega) (by omega)
      have hw4 : IntKind.i64.wrap (200 - n) = 200 - n := wrap_in (by omega) (by omega)
      have hc1 : pu - pc ≤ 200 - n := by omega
      have hc2 : ¬ n = 0 := by omega
      iterate 90 (all_goals (try (first
        | ((with_reducible refine back_in rest.length [1, 8, 9, 10, 11, 12, 13, 14, 15, 16, 17, 18, 19, 20, 21, 22, 23, 24, 25, 26, 27, 28, 29, 30, 31, 32, 33, 34, 35, 36, 37, 38, 39, 40, 41, 42, 43, 44, 45, 46, 47, 48, 49, 50, 51, 52, 53, 54, 55, 56, 57, 58, 59, 60, 61, 62, 63, 64, 65, 66, 67, 68, 69, 70, 71, 72, 73, 74, 75, 76, 77, 78, 79, 80, 81, 82, 83, 84, 85, 86, 87, 88, 89, 90, 91, 92, 93, 94, 95, 96, 97, 98, 99, 100, 101, 102, 103, 104, 105, 106, 107, 108, 109, 110, 111, 112, 113, 114, 115, 116, 117, 118, 119, 120, 121, 122, 123, 124, 125, 126, 127, 128, 129, 130, 131, 132, 133, 134, 135, 136, 137, 138, 139, 140, 141, 142, 143, 144, 145, 146, 147, 148, 149, 150, 151, 152, 153, 154, 155, 156, 157, 158, 159, 160, 161] [] (pre ++ [⟨false, n⟩], rest, .sl 4 ((lst (pu + n) pc du dc).map encOT), (pu + n), pc, du, dc) ?_ ⟨?_, ?_, ?_⟩ ?_)
           · simp
           · exact cut_snoc he.out
           · rfl
           · exact ⟨.inr rfl, by rw [List.length_append]; exact hiv2⟩
           · first | (simp -implicitDefEqProofs only [SD, SF, SL, e_nf, reduceCtorEq, implies_true, ↓reduceIte, Nat.reduceEqDiff, Nat.reduceAdd, Nat.reduceMul, Nat.reduceSub, Nat.reduceLeDiff, Nat.reduceLT, Int.reduceLT, Int.reduceLE, Int.reduceEq, Int.reduceToNat, Int.reduceAdd, Int.reduceSub, Int.reduceNeg, Int.reduceBEq, Int.reduceBNe, Nat.reduceBEq, Int.cast_ofNat_Int, decide_true, decide_false, ne_eq, eq_self_iff_true, beq_eq_false_iff_ne, bne_iff_ne, List.replicate, encStp, st7] <;> simp <;> done) | (simp -implicitDefEqProofs only [SD, SF, SL, e_nf, reduceCtorEq, implies_true, ↓reduceIte, Nat.reduceEqDiff, Nat.reduceAdd, Nat.reduceMul, Nat.reduceSub, Nat.reduceLeDiff, Nat.reduceLT, Int.reduceLT, Int.reduceLE, Int.reduceEq, Int.reduceToNat, Int.reduceAdd, Int.reduceSub, Int.reduceNeg, Int.reduceBEq, Int.reduceBNe, Nat.reduceBEq, Int.cast_ofNat_Int, decide_true, decide_false, ne_eq, eq_self_iff_true, beq_eq_false_iff_ne, bne_iff_ne, List.replicate, encStp, st7, *] <;> simp_all <;> done))
        | ((with_reducible refine of_kSpec ?_); refine call_fz (spec12 (lst pu pc du dc) nU nP n (Nat.le_trans (lst_len pu pc du dc) (by omega))) rfl ?_)
        | ((with_reducible refine of_kSpec ?_); refine call_fz (spec10 (lst (pu + n) pc du dc) ) rfl ?_)
        | ((with_reducible refine of_kSpec ?_); refine call_fz (spec17 (lst (pu + n) pc du dc) nU nP (Nat.le_trans (lst_len (pu + n) pc du dc) (by omega))) rfl ?_)
        | ((with_reducible refine of_kSpec ?_); refine call_fz (spec17 (lst (pu + n) pc du dc) nU nD (Nat.le_trans (lst_len (pu + n) pc du dc) (by omega))) rfl ?_)
        | (with_reducible refine ite_in (fun _ => ?_) (fun _ => ?_))
        | (with_reducible refine ⟨fun _ => ?_, fun _ => ?_⟩)
        | (with_reducible refine And.intro ?_ ?_)
        | (with_reducible intro _)
        | (with_reducible exact is_in _)
        | (simp -implicitDefEqProofs only [SD, SF, SL, e_nf, reduceCtorEq, implies_true, ↓reduceIte, Nat.reduceEqDiff, Nat.reduceAdd, Nat.reduceMul, Nat.reduceSub, Nat.reduceLeDiff, Nat.reduceLT, Int.reduceLT, Int.reduceLE, Int.reduceEq, Int.reduceToNat, Int.reduceAdd, Int.reduceSub, Int.reduceNeg, Int.reduceBEq, Int.reduceBNe, Nat.reduceBEq, Int.cast_ofNat_Int, decide_true, decide_false, ne_eq, eq_self_iff_true, beq_eq_false_iff_ne, bne_iff_ne, List.replicate, encStp, st7, *]))))
      all_goals (first | omega | (simp_all; done) | (simp_all; omega) | trace_state)
    case neg =>
      replace h3 : 200 < pu - pc + n := by omega
      have hr := up_P_full hiv h1 h2 h3
      have hr1 : (upR (lst pu pc du dc) nU nP n).1 = [] := by rw [hr]
      have hr2 : (upR (lst pu pc du dc) nU nP n).2 = 29 := by rw [hr]
      have hiv2 : IvO (pre.length + 1) pu pc du dc := iv_s hiv hi60
      have hck := chk_lst hiv2
      have hlp := left_P pu pc du dc (by have := hiv2.a; have := hiv2.b; omega)
      have hld := left_D pu pc du dc (by have := hiv2.e; have := hiv2.f; omega)
      obtain ⟨i1, i2, i3, i4, i5, i6, i7, i8, i9⟩ := hiv
      clear hr
      have hw0 : IntKind.i64.wrap (pu - pc) = pu - pc := wrap_in (by omega) (by omega)
      have hw1 : IntKind.i64.wrap (du - dc) = du - dc := wrap_in (by omega) (by omega)
      have hw2 : IntKind.i64.wrap (pu - pc) = pu - pc := wrap_in (by omega) (by omega)
      have hw3 : IntKind.i64.wrap (200 - n) = 200 - n := wrap_in (by omega) (by omega)
      have hc1 : ¬ pu - pc ≤ 200 - n := by omega
      have hc2 : ¬ n = 0 := by omega
      iterate 90 (all_goals (try (first
        | ((with_reducible refine back_in rest.length [1, 8, 9, 10, 11, 12, 13, 14, 15, 16, 17, 18, 19, 20, 21, 22, 23, 24, 25, 26, 27, 28, 29, 30, 31, 32, 33, 34, 35, 36, 37, 38, 39, 40, 41, 42, 43, 44, 45, 46, 47, 48, 49, 50, 51, 52, 53, 54, 55, 56, 57, 58, 59, 60, 61, 62, 63, 64, 65, 66, 67, 68, 69, 70, 71, 72, 73, 74, 75, 76, 77, 78, 79, 80, 81, 82, 83, 84, 85, 86, 87, 88, 89, 90, 91, 92, 93, 94, 95, 96, 97, 98, 99, 100, 101, 102, 103, 104, 105, 106, 107, 108, 109, 110, 111, 112, 113, 114, 115, 116, 117, 118, 119, 120, 121, 122, 123, 124, 125, 126, 127, 128, 129, 130, 131, 132, 133, 134, 135, 136, 137, 138, 139, 140, 141, 142, 143, 144, 145, 146, 147, 148, 149, 150, 151, 152, 153, 154, 155, 156, 157, 158, 159, 160, 161] [] (pre ++ [⟨false, n⟩], rest, .sl 4 ((lst pu pc du dc).map encOT), pu, pc, du, dc) ?_ ⟨?_, ?_, ?_⟩ ?_)
           · simp
           · exact cut_snoc he.out
           · rfl
           · exact ⟨.inr rfl, by rw [List.length_append]; exact hiv2⟩
           · first | (simp -implicitDefEqProofs only [SD, SF, SL, e_nf, reduceCtorEq, implies_true, ↓reduceIte, Nat.reduceEqDiff, Nat.reduceAdd, Nat.reduceMul, Nat.reduceSub, Nat.reduceLeDiff, Nat.reduceLT, Int.reduceLT, Int.reduceLE, Int.reduceEq, Int.reduceToNat, Int.reduceAdd, Int.reduceSub, Int.reduceNeg, Int.reduceBEq, Int.reduceBNe, Nat.reduceBEq, Int.cast_ofNat_Int, decide_true, decide_false, ne_eq, eq_self_iff_true, beq_eq_false_iff_ne, bne_iff_ne, List.replicate, encStp, st7] <;> simp <;> done) | (simp -implicitDefEqProofs only [SD, SF, SL, e_nf, reduceCtorEq, implies_true, ↓reduceIte, Nat.reduceEqDiff, Nat.reduceAdd, Nat.reduceMul, Nat.reduceSub, Nat.reduceLeDiff, Nat.reduceLT, Int.reduceLT, Int.reduceLE, Int.reduceEq, Int.reduceToNat, Int.reduceAdd, Int.reduceSub, Int.reduceNeg, Int.reduceBEq, Int.reduceBNe, Nat.reduceBEq, Int.cast_ofNat_Int, decide_true, decide_false, ne_eq, eq_self_iff_true, beq_eq_false_iff_ne, bne_iff_ne, List.replicate, encStp, st7, *] <;> simp_all <;> done))
        | ((with_reducible refine of_kSpec ?_); refine call_fz (spec12 (lst pu pc du dc) nU nP n (Nat.le_trans (lst_len pu pc du dc) (by omega))) rfl ?_)
        | ((with_reducible refine of_kSpec ?_); refine call_fz (spec10 (lst pu pc du dc) ) rfl ?_)
        | ((with_reducible refine of_kSpec ?_); refine call_fz (spec17 (lst pu pc du dc) nU nP (Nat.le_trans (lst_len pu pc du dc) (by omega))) rfl ?_)
        | ((with_reducible refine of_kSpec ?_); refine call_fz (spec17 (lst pu pc du dc) nU nD (Nat.le_trans (lst_len pu pc du dc) (by omega))) rfl ?_)
        | (with_reducible refine ite_in (fun _ => ?_) (fun _ => ?_))
        | (with_reducible refine ⟨fun _ => ?_, fun _ => ?_⟩)
        | (with_reducible refine And.intro ?_ ?_)
        | (with_reducible intro _)
        | (with_reducible exact is_in _)
        | (simp -implicitDefEqProofs only [SD, SF, SL, e_nf, reduceCtorEq, implies_true, ↓reduceIte, Nat.reduceEqDiff, Nat.reduceAdd, Nat.reduceMul, Nat.reduceSub, Nat.reduceLeDiff, Nat.reduceLT, Int.reduceLT, Int.reduceLE, Int.reduceEq, Int.reduceToNat, Int.reduceAdd, Int.reduceSub, Int.reduceNeg, Int.reduceBEq, Int.reduceBNe, Nat.reduceBEq, Int.cast_ofNat_Int, decide_true, decide_false, ne_eq, eq_self_iff_true, beq_eq_false_iff_ne, bne_iff_ne, List.replicate, encStp, st7, *]))))
      all_goals (first | omega | (simp_all; done) | (simp_all; omega) | trace_state)

end Go.Proofs.Ytcjlkbffmggekaa.E
