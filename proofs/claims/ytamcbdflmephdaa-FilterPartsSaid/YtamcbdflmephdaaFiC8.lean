/-
  FiC8: walks of functions of the program at data level.
-/
import Derived.Test.YtamcbdflmephdaaProg
import Derived.Test.YtamcbdflmephdaaEngZ
import Derived.Test.YtamcbdflmephdaaFiC3
import Derived.Test.YtamcbdflmephdaaFiQ
import Derived.KernelRfl
set_option linter.unusedVariables false
set_option linter.unusedSimpArgs false
namespace Go.Proofs.Ytamcbdflmephdaa.E
open Go
set_option maxHeartbeats 4000000
set_option maxRecDepth 100000
set_option linter.unusedSimpArgs false
set_option linter.unusedVariables false
attribute [local congr] c_wp c_ops c_op c_opS c_run c_runS c_dt c_seq c_blk c_loop c_S c_put c_bind c_mv c_pick c_nt c_ng c_bin c_binI c_binS c_beq c_B c_eqa c_hd c_cells c_blkK c_box c_vec c_mp c_nck c_mks c_appn c_mkm c_mput c_mlk c_mrm c_take c_ld c_ldF c_cellsK c_st c_fld c_fldv c_ix c_ixp c_ixv c_ixs c_sub c_subs c_len c_lens c_src c_dst c_ow c_app c_ext c_mm c_conv c_str c_isn c_fill c_rows c_boxo c_frz c_frzO c_frzA c_frzV c_spec c_specO c_opsP c_opP c_runP c_specP c_Z c_qretP c_fz c_fn c_gv c_cond c_res1 c_resL c_ret c_qret c_ite c_unr c_nx c_bk c_cut c_is
attribute [local irreducible] dwp

theorem cut1_len (f : Flt) (es : List Ev) : (cutL f es).1.length = min f.limit.toNat (wantL f es).length := by simp [cutL, List.length_take]
theorem cut_get {f : Flt} {es : List Ev} {n : Nat} {e : Ev} (h : (wantL f es)[n]? = some e) (hn : n < (cutL f es).1.length) : (cutL f es).1[(cutL f es).1.length - 1 - n]? = some e := by
  have hl := cut1_len f es
  unfold cutL at *
  dsimp only at *
  rw [List.getElem?_reverse (by simp at hn ⊢; omega)]
  rw [List.length_reverse] at hn ⊢
  rw [show ((wantL f es).take f.limit.toNat).length - 1 - (((wantL f es).take f.limit.toNat).length - 1 - n) = n by omega]
  rw [List.length_take] at hn
  rw [List.getElem?_take_of_lt (by omega)]
  exact h
theorem want_at {f : Flt} {es : List Ev} {k : Nat} {e : Ev} (h : es[k]? = some e) (hw : wants f e = true) : (wantL f es)[cntW f es (k + 1)]? = some e := by
  unfold wantL cntW
  have h1 : es.filter (wants f) = (es.take k).filter (wants f) ++ e :: (es.drop (k + 1)).filter (wants f) := by
    conv => lhs; rw [← List.take_append_drop k es, List.filter_append, cntW_drop (f := f) h, List.filter_cons, if_pos hw]
  rw [h1, List.reverse_append, List.reverse_cons, List.append_assoc, List.getElem?_append_right (by simp)]
  simp
theorem cntW_le (f : Flt) (es : List Ev) (k : Nat) : cntW f es k ≤ es.length := by
  unfold cntW
  refine Nat.le_trans (List.length_filter_le _ _) ?_
  rw [List.length_drop]
  omega
def ac8 : AC := (.seq (.ops [⟨(some 2), none, (.box (.t 0))⟩, ⟨(some 4), none, (.mv (.c (.bool false)))⟩]) (.seq (.seq (.ops [⟨(some 9), none, (.ld true 5 (.t 2))⟩, ⟨(some 10), none, (.call false 9 [(.t 9)])⟩, ⟨(some 11), none, (.nt (.t 10))⟩, ⟨(some 12), none, (.mv (.t 11))⟩, ⟨(some 13), (some (12, false)), (.mv (.t 1))⟩, ⟨(some 14), (some (12, false)), (.call false 13 [(.t 13)])⟩, ⟨(some 15), (some (12, false)), (.nt (.t 14))⟩, ⟨(some 16), none, (.pick (.t 12) (.c (.bool true)) (.t 15))⟩]) (.cond (.t 16) (.seq (.ops [⟨(some 17), none, (.call false 10 [])⟩, ⟨(some 4), none, (.mv (.t 17))⟩]) .ret) .skip)) (.seq (.ops [⟨(some 19), none, (.ld true 5 (.t 2))⟩, ⟨(some 20), none, (.mv (.t 1))⟩, ⟨(some 21), none, (.call false 16 [(.t 19), (.t 20)])⟩, ⟨(some 18), none, (.mv (.t 21))⟩, ⟨(some 22), none, (.ext (.t 18) 0)⟩, ⟨(some 23), none, (.ext (.t 18) 1)⟩, ⟨(some 5), none, (.mv (.t 22))⟩, ⟨(some 6), none, (.mv (.t 23))⟩]) (.seq (.ops [⟨(some 7), none, (.mv (.c (.int .i64 0)))⟩]) (.seq (.seq (.ops [⟨(some 24), none, (.mv (.t 1))⟩, ⟨(some 25), none, (.len (.t 24))⟩, ⟨(some 26), none, (.bin .sub (.t 25) (.c (.int .i64 1)))⟩, ⟨(some 8), none, (.mv (.t 26))⟩]) (.block 0 (.loop (.seq (.seq (.ops [⟨(some 27), none, (.mv (.t 8))⟩, ⟨(some 28), none, (.bin .geq (.t 27) (.c (.int .i64 0)))⟩]) (.cond (.t 28) .skip (.exit 0))) (.seq (.block 1 (.seq (.seq (.draw (.q false ⟨(some 31), none, (.ld true 5 (.t 2))⟩ (.q false ⟨(some 32), none, (.mv (.t 1))⟩ (.q false ⟨(some 33), none, (.mv (.t 8))⟩ (.q false ⟨(some 34), none, (.ix 29 (.t 32) (.t 33))⟩ (.q false ⟨(some 35), none, (.ld true 29 (.t 34))⟩ (.op ⟨(some 36), none, (.call false 14 [(.t 31), (.t 35)])⟩ (.q false ⟨(some 37), none, (.nt (.t 36))⟩ .nil)))))))) (.cond (.t 37) (.exit 1) .skip)) (.seq (.seq (.draw (.q true ⟨(some 38), none, (.mv (.t 7))⟩ (.q false ⟨(some 39), none, (.mv (.t 5))⟩ (.op ⟨(some 40), none, (.len (.t 39))⟩ (.q false ⟨(some 41), none, (.bin .lss (.t 38) (.t 40))⟩ (.q false ⟨(some 42), none, (.mv (.t 41))⟩ (.q true ⟨(some 43), (some (42, true)), (.mv (.t 5))⟩ (.q false ⟨(some 44), (some (42, true)), (.mv (.t 5))⟩ (.q true ⟨(some 47), (some (42, true)), (.mv (.t 7))⟩ (.q true ⟨(some 51), (some (42, true)), (.mv (.t 1))⟩ (.q true ⟨(some 52), (some (42, true)), (.mv (.t 8))⟩ (.q true ⟨(some 53), (some (42, true)), (.ix 29 (.t 51) (.t 52))⟩ (.q true ⟨(some 54), (some (42, true)), (.ld true 29 (.t 53))⟩ (.op ⟨(some 45), (some (42, true)), (.len (.t 44))⟩ (.q false ⟨(some 46), (some (42, true)), (.bin .sub (.t 45) (.c (.int .i64 1)))⟩ (.q false ⟨(some 48), (some (42, true)), (.bin .sub (.t 46) (.t 47))⟩ (.q false ⟨(some 49), (some (42, true)), (.ix 29 (.t 43) (.t 48))⟩ (.q false ⟨(some 50), (some (42, true)), (.ld true 29 (.t 49))⟩ (.op ⟨(some 55), (some (42, true)), (.call false 24 [(.t 50), (.t 54)])⟩ (.q false ⟨(some 56), (some (42, true)), (.nt (.t 55))⟩ (.q false ⟨(some 57), none, (.pick (.t 42) (.t 56) (.c (.bool false)))⟩ .nil))))))))))))))))))))) (.cond (.t 57) (.seq (.ops [⟨(some 4), none, (.mv (.c (.bool false)))⟩]) .ret) .skip)) (.ops [⟨(some 58), none, (.mv (.t 7))⟩, ⟨(some 59), none, (.bin .add (.t 58) (.c (.int .i64 1)))⟩, ⟨(some 7), none, (.mv (.t 59))⟩])))) (.ops [⟨(some 29), none, (.mv (.t 8))⟩, ⟨(some 30), none, (.bin .sub (.t 29) (.c (.int .i64 1)))⟩, ⟨(some 8), none, (.mv (.t 30))⟩])))))) (.seq (.seq (.ops [⟨(some 60), none, (.mv (.t 6))⟩, ⟨(some 61), none, (.mv (.t 7))⟩, ⟨(some 62), none, (.mv (.t 5))⟩, ⟨(some 63), none, (.len (.t 62))⟩, ⟨(some 64), none, (.bin .gtr (.t 61) (.t 63))⟩, ⟨(some 65), none, (.beq true (.t 60) (.t 64))⟩, ⟨(some 66), none, (.mv (.t 65))⟩, ⟨(some 67), (some (66, false)), (.mv (.t 5))⟩, ⟨(some 68), (some (66, false)), (.len (.t 67))⟩, ⟨(some 69), (some (66, false)), (.mv (.t 7))⟩, ⟨(some 70), (some (66, false)), (.bin .gtr (.t 68) (.t 69))⟩, ⟨(some 71), none, (.pick (.t 66) (.c (.bool true)) (.t 70))⟩]) (.cond (.t 71) (.seq (.ops [⟨(some 4), none, (.mv (.c (.bool false)))⟩]) .ret) .skip)) (.seq (.ops [⟨(some 72), none, (.mv (.t 5))⟩, ⟨(some 73), none, (.len (.t 72))⟩, ⟨(some 74), none, (.fld 3 (.t 2))⟩, ⟨(some 75), none, (.ld false 1 (.t 74))⟩, ⟨(some 76), none, (.bin .leq (.t 73) (.t 75))⟩, ⟨(some 77), none, (.mv (.t 76))⟩, ⟨(some 78), (some (77, false)), (.mv (.t 5))⟩, ⟨(some 79), (some (77, false)), (.len (.t 78))⟩, ⟨(some 80), (some (77, false)), (.bin .eql (.t 79) (.c (.int .i64 0)))⟩, ⟨(some 81), none, (.pick (.t 77) (.c (.bool true)) (.t 80))⟩, ⟨(some 82), none, (.mv (.t 81))⟩, ⟨(some 83), (some (82, true)), (.mv (.t 6))⟩, ⟨(some 84), (some (82, true)), (.nt (.t 83))⟩, ⟨(some 85), (some (82, true)), (.mv (.t 84))⟩, ⟨(some 86), (some (85, false)), (.mv (.t 5))⟩, ⟨(some 87), (some (85, false)), (.len (.t 86))⟩, ⟨(some 88), (some (85, false)), (.fld 3 (.t 2))⟩, ⟨(some 89), (some (85, false)), (.ld false 1 (.t 88))⟩, ⟨(some 90), (some (85, false)), (.bin .eql (.t 87) (.t 89))⟩, ⟨(some 91), (some (82, true)), (.pick (.t 85) (.c (.bool true)) (.t 90))⟩, ⟨(some 92), (some (82, true)), (.mv (.t 91))⟩, ⟨(some 93), (some (92, false)), (.fld 3 (.t 2))⟩, ⟨(some 94), (some (92, false)), (.ld false 1 (.t 93))⟩, ⟨(some 95), (some (92, false)), (.bin .lss (.t 94) (.c (.int .i64 0)))⟩, ⟨(some 96), (some (92, false)), (.mv (.t 95))⟩, ⟨(some 97), (some (96, true)), (.mv (.t 5))⟩, ⟨(some 98), (some (96, true)), (.len (.t 97))⟩, ⟨(some 99), (some (96, true)), (.bin .eql (.t 98) (.c (.int .i64 0)))⟩, ⟨(some 100), (some (92, false)), (.pick (.t 96) (.t 99) (.c (.bool false)))⟩, ⟨(some 101), (some (82, true)), (.pick (.t 92) (.c (.bool true)) (.t 100))⟩, ⟨(some 102), none, (.pick (.t 82) (.t 101) (.c (.bool false)))⟩, ⟨(some 103), none, (.mv (.t 102))⟩, ⟨(some 104), (some (103, true)), (.call false 10 [])⟩, ⟨(some 105), none, (.pick (.t 103) (.t 104) (.c (.bool false)))⟩, ⟨(some 4), none, (.mv (.t 105))⟩]) .ret)))))))
theorem tr8 : Try.f8.body.bind (trCode Try.prog) = some (strip ac8) := by kernel_rfl
theorem spec8 (f : Flt) (es : List Ev) : Spec Try.prog 8 [.fz (.agg (encFl f)), .fz (.sl 29 (es.map encEv))] (.fz (.bool true)) := by
  refine spec_at (n := 104) (ars := [(.t 4)]) (ac := ac8) Try.func8 (by kernel_rfl) (by kernel_rfl) tr8 (by kernel_rfl) ?_
  unfold ac8
  by_cases hl : lightB es = true
  case neg =>
    iterate 30 (all_goals (try (first
      | ((with_reducible refine of_kSpec ?_); refine call_fz (spec9 f) rfl ?_)
      | ((with_reducible refine of_kSpec ?_); refine call_fz (spec10) rfl ?_)
      | ((with_reducible refine of_kSpec ?_); refine call_fz (spec13 es) rfl ?_)
      | (with_reducible refine ite_in (fun _ => ?_) (fun _ => ?_))
      | (with_reducible refine ⟨fun _ => ?_, fun _ => ?_⟩)
      | (with_reducible refine And.intro ?_ ?_)
      | (with_reducible intro _)
      | (with_reducible exact is_in _)
      | (simp -implicitDefEqProofs only [SD, SF, SL, e_nf, reduceCtorEq, implies_true, ↓reduceIte, Nat.reduceEqDiff, Nat.reduceAdd, Nat.reduceMul, Nat.reduceSub, Nat.reduceLeDiff, Nat.reduceLT, Int.reduceLT, Int.reduceLE, Int.reduceEq, Int.reduceToNat, Int.reduceAdd, Int.reduceSub, Int.reduceNeg, Int.reduceBEq, Int.reduceBNe, Nat.reduceBEq, Int.cast_ofNat_Int, decide_true, decide_false, ne_eq, eq_self_iff_true, beq_eq_false_iff_ne, bne_iff_ne, List.replicate, encFl, *]))))
    all_goals (first | omega | (simp_all; done) | (simp_all; omega))
  by_cases hs : shortB f = true
  case neg =>
    iterate 30 (all_goals (try (first
      | ((with_reducible refine of_kSpec ?_); refine call_fz (spec9 f) rfl ?_)
      | ((with_reducible refine of_kSpec ?_); refine call_fz (spec10) rfl ?_)
      | ((with_reducible refine of_kSpec ?_); refine call_fz (spec13 es) rfl ?_)
      | (with_reducible refine ite_in (fun _ => ?_) (fun _ => ?_))
      | (with_reducible refine ⟨fun _ => ?_, fun _ => ?_⟩)
      | (with_reducible refine And.intro ?_ ?_)
      | (with_reducible intro _)
      | (with_reducible exact is_in _)
      | (simp -implicitDefEqProofs only [SD, SF, SL, e_nf, reduceCtorEq, implies_true, ↓reduceIte, Nat.reduceEqDiff, Nat.reduceAdd, Nat.reduceMul, Nat.reduceSub, Nat.reduceLeDiff, Nat.reduceLT, Int.reduceLT, Int.reduceLE, Int.reduceEq, Int.reduceToNat, Int.reduceAdd, Int.reduceSub, Int.reduceNeg, Int.reduceBEq, Int.reduceBNe, Nat.reduceBEq, Int.cast_ofNat_Int, decide_true, decide_false, ne_eq, eq_self_iff_true, beq_eq_false_iff_ne, bne_iff_ne, List.replicate, encFl, *]))))
    all_goals (first | omega | (simp_all; done) | (simp_all; omega))
  have hb := light_le hl
  have hw0 : IntKind.i64.wrap ((es.length : Int) - 1) = (es.length : Int) - 1 := wrap_in (by omega) (by omega)
  have hcl := Hd.mk (cut1_len f es)
  have hwl := wantL_len f es
  have hce := cntW_end f es
  iterate 24 (all_goals (try (first
    | ((with_reducible refine of_kSpec ?_); refine call_fz (spec9 f) rfl ?_)
    | ((with_reducible refine of_kSpec ?_); refine call_fz (spec13 es) rfl ?_)
    | ((with_reducible refine of_kSpec ?_); refine call_fz (spec16 f es (by omega)) rfl ?_)
    | (with_reducible refine ite_in (fun _ => ?_) (fun _ => ?_))
    | (with_reducible refine ⟨fun _ => ?_, fun _ => ?_⟩)
    | (with_reducible refine And.intro ?_ ?_)
    | (with_reducible intro _)
    | (with_reducible exact is_in _)
    | (simp -implicitDefEqProofs only [SD, SF, SL, e_nf, reduceCtorEq, implies_true, ↓reduceIte, Nat.reduceEqDiff, Nat.reduceAdd, Nat.reduceMul, Nat.reduceSub, Nat.reduceLeDiff, Nat.reduceLT, Int.reduceLT, Int.reduceLE, Int.reduceEq, Int.reduceToNat, Int.reduceAdd, Int.reduceSub, Int.reduceNeg, Int.reduceBEq, Int.reduceBNe, Nat.reduceBEq, Int.cast_ofNat_Int, decide_true, decide_false, ne_eq, eq_self_iff_true, beq_eq_false_iff_ne, bne_iff_ne, List.replicate, encFl, *]))))
  refine loop_q (X := Nat) (fun n x => n = x ∧ x ≤ es.length) (fun x => [(7, .int .i64 (cntW f es x)), (8, .int .i64 ((x : Int) - 1))]) (fun _ => []) [4, 27, 28, 29, 30, 31, 32, 33, 34, 35, 36, 37, 38, 39, 40, 41, 42, 43, 44, 45, 46, 47, 48, 49, 50, 51, 52, 53, 54, 55, 56, 57, 58, 59] [] es.length es.length ⟨rfl, Nat.le_refl _⟩ ?_ ?_
  · simp -implicitDefEqProofs only [SD, SF, SL, e_nf, reduceCtorEq, implies_true, ↓reduceIte, Nat.reduceEqDiff, Nat.reduceAdd, Nat.reduceMul, Nat.reduceSub, Nat.reduceLeDiff, Nat.reduceLT, Int.reduceLT, Int.reduceLE, Int.reduceEq, Int.reduceToNat, Int.reduceAdd, Int.reduceSub, Int.reduceNeg, Int.reduceBEq, Int.reduceBNe, Nat.reduceBEq, Int.cast_ofNat_Int, decide_true, decide_false, ne_eq, eq_self_iff_true, beq_eq_false_iff_ne, bne_iff_ne, List.replicate, encFl, hce] <;> simp [hce]
  · rintro n x ⟨rfl, hx⟩
    cases n with
    | zero =>
      have hc0 : cntW f es 0 = (wantL f es).length := by rw [cntW_all]; simp [ysW, wantL]
      have hlt : ¬ ((0 : Int) ≤ ((0 : Nat) : Int) - 1) := by omega
      have hlt2 : ¬ ((0 : Int) ≤ 0 - 1) := by omega
      have hlt3 : ¬ ((0 : Int) ≤ -1) := by omega
      have hmo : (cutL f es).2 = decide (f.limit.toNat < (wantL f es).length) := rfl
      rw [hc0]
      iterate 60 (all_goals (try (first
        | ((with_reducible refine of_kSpec ?_); refine call_fz (spec10) rfl ?_)
        | (with_reducible refine ite_in (fun _ => ?_) (fun _ => ?_))
        | (with_reducible refine ⟨fun _ => ?_, fun _ => ?_⟩)
        | (with_reducible refine And.intro ?_ ?_)
        | (with_reducible intro _)
        | (with_reducible exact is_in _)
        | (simp -implicitDefEqProofs only [SD, SF, SL, e_nf, reduceCtorEq, implies_true, ↓reduceIte, Nat.reduceEqDiff, Nat.reduceAdd, Nat.reduceMul, Nat.reduceSub, Nat.reduceLeDiff, Nat.reduceLT, Int.reduceLT, Int.reduceLE, Int.reduceEq, Int.reduceToNat, Int.reduceAdd, Int.reduceSub, Int.reduceNeg, Int.reduceBEq, Int.reduceBNe, Nat.reduceBEq, Int.cast_ofNat_Int, decide_true, decide_false, ne_eq, eq_self_iff_true, beq_eq_false_iff_ne, bne_iff_ne, List.replicate, encFl, hmo, *]))))
      all_goals (first | (have hcl1 := hcl.out; simp only [decide_eq_decide] at *; omega) | trace_state)
    | succ k =>
      have hk1 : (((k + 1 : Nat) : Int) - 1) = (k : Int) := by omega
      rw [hk1]
      obtain ⟨e, he⟩ : ∃ e, es[k]? = some e := ⟨es[k]'(by omega), List.getElem?_eq_getElem _⟩
      have hgd : (es.map encEv).getD k [] = encEv e := by simp [List.getD, he]
      have hki : (k : Int) < (es.length : Int) := by omega
      have hk0 : (0 : Int) ≤ (k : Int) := by omega
      have hwk : IntKind.i64.wrap ((k : Int) - 1) = (k : Int) - 1 := wrap_in (by omega) (by omega)
      have hcle := cntW_le f es (k + 1)
      by_cases hw : wants f e = true
      case neg =>
        have hcw : cntW f es k = cntW f es (k + 1) := cntW_no he (by simpa using hw)
        iterate 60 (all_goals (try (first
          | ((with_reducible refine back_in k [4, 27, 28, 29, 30, 31, 32, 33, 34, 35, 36, 37, 38, 39, 40, 41, 42, 43, 44, 45, 46, 47, 48, 49, 50, 51, 52, 53, 54, 55, 56, 57, 58, 59] [] k ?_ ⟨rfl, ?_⟩ ?_)
             · omega
             · omega
             · first | (simp -implicitDefEqProofs only [SD, SF, SL, e_nf, reduceCtorEq, implies_true, ↓reduceIte, Nat.reduceEqDiff, Nat.reduceAdd, Nat.reduceMul, Nat.reduceSub, Nat.reduceLeDiff, Nat.reduceLT, Int.reduceLT, Int.reduceLE, Int.reduceEq, Int.reduceToNat, Int.reduceAdd, Int.reduceSub, Int.reduceNeg, Int.reduceBEq, Int.reduceBNe, Nat.reduceBEq, Int.cast_ofNat_Int, decide_true, decide_false, ne_eq, eq_self_iff_true, beq_eq_false_iff_ne, bne_iff_ne, List.replicate, encFl] <;> simp [hcw] <;> done) | (simp -implicitDefEqProofs only [SD, SF, SL, e_nf, reduceCtorEq, implies_true, ↓reduceIte, Nat.reduceEqDiff, Nat.reduceAdd, Nat.reduceMul, Nat.reduceSub, Nat.reduceLeDiff, Nat.reduceLT, Int.reduceLT, Int.reduceLE, Int.reduceEq, Int.reduceToNat, Int.reduceAdd, Int.reduceSub, Int.reduceNeg, Int.reduceBEq, Int.reduceBNe, Nat.reduceBEq, Int.cast_ofNat_Int, decide_true, decide_false, ne_eq, eq_self_iff_true, beq_eq_false_iff_ne, bne_iff_ne, List.replicate, encFl, *] <;> simp_all <;> done))
          | ((with_reducible refine of_kSpec ?_); refine call_fz (spec14 f e) rfl ?_)
          | (with_reducible refine ite_in (fun _ => ?_) (fun _ => ?_))
          | (with_reducible refine ⟨fun _ => ?_, fun _ => ?_⟩)
          | (with_reducible refine And.intro ?_ ?_)
          | (with_reducible intro _)
          | (with_reducible exact is_in _)
          | (simp -implicitDefEqProofs only [SD, SF, SL, e_nf, reduceCtorEq, implies_true, ↓reduceIte, Nat.reduceEqDiff, Nat.reduceAdd, Nat.reduceMul, Nat.reduceSub, Nat.reduceLeDiff, Nat.reduceLT, Int.reduceLT, Int.reduceLE, Int.reduceEq, Int.reduceToNat, Int.reduceAdd, Int.reduceSub, Int.reduceNeg, Int.reduceBEq, Int.reduceBNe, Nat.reduceBEq, Int.cast_ofNat_Int, decide_true, decide_false, ne_eq, eq_self_iff_true, beq_eq_false_iff_ne, bne_iff_ne, List.replicate, encFl, encEv, *]))))
        all_goals (trace_state)
      case pos =>
        have hcw : cntW f es k = cntW f es (k + 1) + 1 := cntW_yes he hw
        have hat := want_at he hw
        have hwi : IntKind.i64.wrap ((cntW f es (k + 1) : Int) + 1) = (cntW f es (k + 1) : Int) + 1 := wrap_in (by omega) (by omega)
        have hlen : (cutL f es).1.length ≤ es.length := by rw [hcl.out]; omega
        by_cases hn : cntW f es (k + 1) < (cutL f es).1.length
        case neg =>
          have hn' : ¬ ((cntW f es (k + 1) : Int) < ((cutL f es).1.length : Int)) := by omega
          iterate 60 (all_goals (try (first
            | ((with_reducible refine back_in k [4, 27, 28, 29, 30, 31, 32, 33, 34, 35, 36, 37, 38, 39, 40, 41, 42, 43, 44, 45, 46, 47, 48, 49, 50, 51, 52, 53, 54, 55, 56, 57, 58, 59] [] k ?_ ⟨rfl, ?_⟩ ?_)
               · omega
               · omega
               · first | (simp -implicitDefEqProofs only [SD, SF, SL, e_nf, reduceCtorEq, implies_true, ↓reduceIte, Nat.reduceEqDiff, Nat.reduceAdd, Nat.reduceMul, Nat.reduceSub, Nat.reduceLeDiff, Nat.reduceLT, Int.reduceLT, Int.reduceLE, Int.reduceEq, Int.reduceToNat, Int.reduceAdd, Int.reduceSub, Int.reduceNeg, Int.reduceBEq, Int.reduceBNe, Nat.reduceBEq, Int.cast_ofNat_Int, decide_true, decide_false, ne_eq, eq_self_iff_true, beq_eq_false_iff_ne, bne_iff_ne, List.replicate, encFl] <;> simp [hcw] <;> done) | (simp -implicitDefEqProofs only [SD, SF, SL, e_nf, reduceCtorEq, implies_true, ↓reduceIte, Nat.reduceEqDiff, Nat.reduceAdd, Nat.reduceMul, Nat.reduceSub, Nat.reduceLeDiff, Nat.reduceLT, Int.reduceLT, Int.reduceLE, Int.reduceEq, Int.reduceToNat, Int.reduceAdd, Int.reduceSub, Int.reduceNeg, Int.reduceBEq, Int.reduceBNe, Nat.reduceBEq, Int.cast_ofNat_Int, decide_true, decide_false, ne_eq, eq_self_iff_true, beq_eq_false_iff_ne, bne_iff_ne, List.replicate, encFl, *] <;> simp_all <;> done))
            | ((with_reducible refine of_kSpec ?_); refine call_fz (spec14 f e) rfl ?_)
            | (with_reducible refine ite_in (fun _ => ?_) (fun _ => ?_))
            | (with_reducible refine ⟨fun _ => ?_, fun _ => ?_⟩)
            | (with_reducible refine And.intro ?_ ?_)
            | (with_reducible intro _)
            | (with_reducible exact is_in _)
            | (simp -implicitDefEqProofs only [SD, SF, SL, e_nf, reduceCtorEq, implies_true, ↓reduceIte, Nat.reduceEqDiff, Nat.reduceAdd, Nat.reduceMul, Nat.reduceSub, Nat.reduceLeDiff, Nat.reduceLT, Int.reduceLT, Int.reduceLE, Int.reduceEq, Int.reduceToNat, Int.reduceAdd, Int.reduceSub, Int.reduceNeg, Int.reduceBEq, Int.reduceBNe, Nat.reduceBEq, Int.cast_ofNat_Int, decide_true, decide_false, ne_eq, eq_self_iff_true, beq_eq_false_iff_ne, bne_iff_ne, List.replicate, encFl, encEv, *]))))
          all_goals (trace_state)
        case pos =>
          have hn' : (cntW f es (k + 1) : Int) < ((cutL f es).1.length : Int) := by omega
          have hg := cut_get hat hn
          obtain ⟨j, hj⟩ : ∃ j, j = (cutL f es).1.length - 1 - cntW f es (k + 1) := ⟨_, rfl⟩
          rw [← hj] at hg
          have hgj : ((cutL f es).1.map encEv).getD j [] = encEv e := by simp [List.getD, hg]
          have hw1 : IntKind.i64.wrap (((cutL f es).1.length : Int) - 1) = ((cutL f es).1.length : Int) - 1 := wrap_in (by omega) (by omega)
          have hw2 : IntKind.i64.wrap (((cutL f es).1.length : Int) - 1 - (cntW f es (k + 1) : Int)) = (j : Int) := by
            rw [wrap_in (by omega) (by omega)]
            omega
          have hj1 : (j : Int) < ((cutL f es).1.length : Int) := by omega
          clear hg hat hj
          iterate 80 (all_goals (try (first
            | ((with_reducible refine back_in k [4, 27, 28, 29, 30, 31, 32, 33, 34, 35, 36, 37, 38, 39, 40, 41, 42, 43, 44, 45, 46, 47, 48, 49, 50, 51, 52, 53, 54, 55, 56, 57, 58, 59] [] k ?_ ⟨rfl, ?_⟩ ?_)
               · omega
               · omega
               · first | (simp -implicitDefEqProofs only [SD, SF, SL, e_nf, reduceCtorEq, implies_true, ↓reduceIte, Nat.reduceEqDiff, Nat.reduceAdd, Nat.reduceMul, Nat.reduceSub, Nat.reduceLeDiff, Nat.reduceLT, Int.reduceLT, Int.reduceLE, Int.reduceEq, Int.reduceToNat, Int.reduceAdd, Int.reduceSub, Int.reduceNeg, Int.reduceBEq, Int.reduceBNe, Nat.reduceBEq, Int.cast_ofNat_Int, decide_true, decide_false, ne_eq, eq_self_iff_true, beq_eq_false_iff_ne, bne_iff_ne, List.replicate, encFl] <;> simp [hcw] <;> done) | (simp -implicitDefEqProofs only [SD, SF, SL, e_nf, reduceCtorEq, implies_true, ↓reduceIte, Nat.reduceEqDiff, Nat.reduceAdd, Nat.reduceMul, Nat.reduceSub, Nat.reduceLeDiff, Nat.reduceLT, Int.reduceLT, Int.reduceLE, Int.reduceEq, Int.reduceToNat, Int.reduceAdd, Int.reduceSub, Int.reduceNeg, Int.reduceBEq, Int.reduceBNe, Nat.reduceBEq, Int.cast_ofNat_Int, decide_true, decide_false, ne_eq, eq_self_iff_true, beq_eq_false_iff_ne, bne_iff_ne, List.replicate, encFl, *] <;> simp_all <;> done))
            | ((with_reducible refine of_kSpec ?_); refine call_fz (spec14 f e) rfl ?_)
            | ((with_reducible refine of_kSpec ?_); refine call_fz (spec24 e e) rfl ?_)
            | (with_reducible refine ite_in (fun _ => ?_) (fun _ => ?_))
            | (with_reducible refine ⟨fun _ => ?_, fun _ => ?_⟩)
            | (with_reducible refine And.intro ?_ ?_)
            | (with_reducible intro _)
            | (with_reducible exact is_in _)
            | (simp -implicitDefEqProofs only [SD, SF, SL, e_nf, reduceCtorEq, implies_true, ↓reduceIte, Nat.reduceEqDiff, Nat.reduceAdd, Nat.reduceMul, Nat.reduceSub, Nat.reduceLeDiff, Nat.reduceLT, Int.reduceLT, Int.reduceLE, Int.reduceEq, Int.reduceToNat, Int.reduceAdd, Int.reduceSub, Int.reduceNeg, Int.reduceBEq, Int.reduceBNe, Nat.reduceBEq, Int.cast_ofNat_Int, decide_true, decide_false, ne_eq, eq_self_iff_true, beq_eq_false_iff_ne, bne_iff_ne, List.replicate, encFl, encEv, List.length_map, *]))))
          all_goals (trace_state)


end Go.Proofs.Ytamcbdflmephdaa.E
