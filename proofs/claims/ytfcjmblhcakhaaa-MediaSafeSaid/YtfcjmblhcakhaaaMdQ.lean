/-
  MdQ: walks of functions of the program at data level.
-/
import Derived.Test.YtfcjmblhcakhaaaProg
import Derived.Test.YtfcjmblhcakhaaaEngZ
import Derived.Test.YtfcjmblhcakhaaaMdO
import Derived.KernelRfl
set_option linter.unusedVariables false
set_option linter.unusedSimpArgs false
namespace Go.Proofs.Ytfcjmblhcakhaaa.E
open Go
set_option maxHeartbeats 4000000
set_option maxRecDepth 100000
set_option linter.unusedSimpArgs false
set_option linter.unusedVariables false
attribute [local congr] c_wp c_ops c_op c_opS c_run c_runS c_dt c_seq c_blk c_loop c_S c_put c_bind c_mv c_pick c_nt c_ng c_bin c_binI c_binS c_beq c_B c_eqa c_hd c_cells c_blkK c_box c_vec c_mp c_mkm c_mput c_mlk c_mrm c_take c_ld c_ldF c_cellsK c_st c_fld c_fldv c_ix c_ixp c_ixv c_ixs c_sub c_subs c_len c_lens c_src c_dst c_ow c_app c_ext c_mm c_conv c_str c_isn c_fill c_rows c_boxo c_frz c_frzO c_frzA c_frzV c_spec c_specO c_opsP c_opP c_runP c_specP c_Z c_qretP c_fz c_fn c_gv c_cond c_res1 c_resL c_ret c_qret c_ite c_unr c_nx c_bk c_cut c_is
attribute [local irreducible] dwp
def ac7 : AC := (.seq (.ops [⟨(some 4), none, (.box (.t 1))⟩, ⟨(some 6), none, (.mv (.c (.bool false)))⟩]) (.seq (.seq (.ops [⟨(some 18), none, (.mv (.t 0))⟩, ⟨(some 19), none, (.len (.t 18))⟩, ⟨(some 20), none, (.bin .gtr (.t 19) (.c (.int .i64 20)))⟩, ⟨(some 21), none, (.mv (.t 20))⟩, ⟨(some 22), (some (21, false)), (.mv (.t 2))⟩, ⟨(some 23), (some (21, false)), (.len (.t 22))⟩, ⟨(some 24), (some (21, false)), (.bin .gtr (.t 23) (.c (.int .i64 20)))⟩, ⟨(some 25), none, (.pick (.t 21) (.c (.bool true)) (.t 24))⟩, ⟨(some 26), none, (.mv (.t 25))⟩, ⟨(some 27), (some (26, false)), (.mv (.t 0))⟩, ⟨(some 28), (some (26, false)), (.call false 13 [(.t 27)])⟩, ⟨(some 29), (some (26, false)), (.bin .neq (.t 28) (.c (.int .i64 0)))⟩, ⟨(some 30), none, (.pick (.t 26) (.c (.bool true)) (.t 29))⟩]) (.cond (.t 30) (.seq (.ops [⟨(some 31), none, (.call false 10 [])⟩, ⟨(some 6), none, (.mv (.t 31))⟩]) .ret) .skip)) (.seq (.ops [⟨(some 32), none, (.mv (.t 0))⟩, ⟨(some 33), none, (.fld 1 (.t 4))⟩, ⟨(some 34), none, (.ld false 1 (.t 33))⟩, ⟨(some 35), none, (.fld 2 (.t 4))⟩, ⟨(some 36), none, (.ld false 1 (.t 35))⟩, ⟨(some 37), none, (.call false 21 [(.t 32), (.t 34), (.t 36)])⟩, ⟨(some 7), none, (.mv (.t 37))⟩]) (.seq (.ops [⟨(some 39), none, (.mv (.t 7))⟩, ⟨(some 40), none, (.fld 1 (.t 4))⟩, ⟨(some 41), none, (.ld false 1 (.t 40))⟩, ⟨(some 42), none, (.fld 2 (.t 4))⟩, ⟨(some 43), none, (.ld false 1 (.t 42))⟩, ⟨(some 44), none, (.call false 11 [(.t 39), (.t 41), (.t 43)])⟩, ⟨(some 38), none, (.mv (.t 44))⟩, ⟨(some 45), none, (.ext (.t 38) 0)⟩, ⟨(some 46), none, (.ext (.t 38) 1)⟩, ⟨(some 8), none, (.alloc [(.str []), (.str []), (.int .i64 0), (.int .i64 0), (.int .i64 0)])⟩, ⟨none, none, (.sto 5 (.t 8) (.t 45))⟩, ⟨(some 9), none, (.mv (.t 46))⟩]) (.seq (.seq (.ops [⟨(some 47), none, (.mv (.t 7))⟩, ⟨(some 48), none, (.call false 13 [(.t 47)])⟩, ⟨(some 49), none, (.bin .neq (.t 48) (.c (.int .i64 0)))⟩, ⟨(some 50), none, (.mv (.t 49))⟩, ⟨(some 51), (some (50, false)), (.mv (.t 9))⟩, ⟨(some 52), (some (50, false)), (.mv (.t 51))⟩, ⟨(some 53), (some (52, true)), (.fld 4 (.t 8))⟩, ⟨(some 54), (some (52, true)), (.ld false 1 (.t 53))⟩, ⟨(some 55), (some (52, true)), (.bin .neq (.t 54) (.c (.int .i64 2)))⟩, ⟨(some 56), (some (50, false)), (.pick (.t 52) (.t 55) (.c (.bool false)))⟩, ⟨(some 57), none, (.pick (.t 50) (.c (.bool true)) (.t 56))⟩, ⟨(some 58), none, (.mv (.t 57))⟩, ⟨(some 59), (some (58, false)), (.mv (.t 9))⟩, ⟨(some 60), (some (58, false)), (.nt (.t 59))⟩, ⟨(some 61), (some (58, false)), (.mv (.t 60))⟩, ⟨(some 62), (some (61, true)), (.mv (.t 7))⟩, ⟨(some 63), (some (61, true)), (.len (.t 62))⟩, ⟨(some 64), (some (61, true)), (.mv (.t 0))⟩, ⟨(some 65), (some (61, true)), (.len (.t 64))⟩, ⟨(some 66), (some (61, true)), (.bin .neq (.t 63) (.t 65))⟩, ⟨(some 67), (some (58, false)), (.pick (.t 61) (.t 66) (.c (.bool false)))⟩, ⟨(some 68), none, (.pick (.t 58) (.c (.bool true)) (.t 67))⟩]) (.cond (.t 68) (.seq (.ops [⟨(some 6), none, (.mv (.c (.bool false)))⟩]) .ret) .skip)) (.seq (.seq (.ops [⟨(some 10), none, (.mv (.c (.int .i64 0)))⟩]) (.block 0 (.loop (.seq (.seq (.ops [⟨(some 69), none, (.mv (.t 10))⟩, ⟨(some 70), none, (.mv (.t 2))⟩, ⟨(some 71), none, (.len (.t 70))⟩, ⟨(some 72), none, (.bin .lss (.t 69) (.t 71))⟩]) (.cond (.t 72) .skip (.exit 0))) (.seq (.block 1 (.seq (.ops [⟨(some 75), none, (.mv (.t 2))⟩, ⟨(some 76), none, (.mv (.t 10))⟩, ⟨(some 77), none, (.ix 5 (.t 75) (.t 76))⟩, ⟨(some 78), none, (.ld true 5 (.t 77))⟩, ⟨(some 11), none, (.alloc [(.str []), (.str []), (.str []), (.int .i64 0), (.int .i64 0)])⟩, ⟨none, none, (.sto 5 (.t 11) (.t 78))⟩]) (.seq (.ops [⟨(some 80), none, (.mv (.t 7))⟩, ⟨(some 81), none, (.fld 0 (.t 11))⟩, ⟨(some 82), none, (.ld false 1 (.t 81))⟩, ⟨(some 83), none, (.fld 1 (.t 11))⟩, ⟨(some 84), none, (.ld false 1 (.t 83))⟩, ⟨(some 85), none, (.fld 2 (.t 11))⟩, ⟨(some 86), none, (.ld false 1 (.t 85))⟩, ⟨(some 87), none, (.fld 3 (.t 11))⟩, ⟨(some 88), none, (.ld false 1 (.t 87))⟩, ⟨(some 89), none, (.fld 4 (.t 11))⟩, ⟨(some 90), none, (.ld false 1 (.t 89))⟩, ⟨(some 91), none, (.call false 23 [(.t 80), (.t 82), (.t 84), (.t 86), (.t 88), (.t 90)])⟩, ⟨(some 79), none, (.mv (.t 91))⟩, ⟨(some 92), none, (.ext (.t 79) 0)⟩, ⟨(some 93), none, (.ext (.t 79) 1)⟩, ⟨(some 12), none, (.mv (.t 92))⟩, ⟨(some 13), none, (.mv (.t 93))⟩]) (.seq (.seq (.ops [⟨(some 94), none, (.mv (.t 9))⟩, ⟨(some 95), none, (.mv (.t 94))⟩, ⟨(some 96), (some (95, true)), (.fld 1 (.t 11))⟩, ⟨(some 97), (some (95, true)), (.ld false 1 (.t 96))⟩, ⟨(some 98), (some (95, true)), (.fld 1 (.t 4))⟩, ⟨(some 99), (some (95, true)), (.ld false 1 (.t 98))⟩, ⟨(some 100), (some (95, true)), (.bin .eql (.t 97) (.t 99))⟩, ⟨(some 101), none, (.pick (.t 95) (.t 100) (.c (.bool false)))⟩, ⟨(some 102), none, (.mv (.t 101))⟩, ⟨(some 103), (some (102, true)), (.fld 2 (.t 11))⟩, ⟨(some 104), (some (102, true)), (.ld false 1 (.t 103))⟩, ⟨(some 105), (some (102, true)), (.fld 2 (.t 4))⟩, ⟨(some 106), (some (102, true)), (.ld false 1 (.t 105))⟩, ⟨(some 107), (some (102, true)), (.bin .eql (.t 104) (.t 106))⟩, ⟨(some 108), none, (.pick (.t 102) (.t 107) (.c (.bool false)))⟩, ⟨(some 109), none, (.mv (.t 108))⟩, ⟨(some 110), (some (109, true)), (.mv (.t 13))⟩, ⟨(some 111), (some (109, true)), (.bin .neq (.t 110) (.c (.int .i64 27)))⟩, ⟨(some 112), none, (.pick (.t 109) (.t 111) (.c (.bool false)))⟩, ⟨(some 113), none, (.mv (.t 112))⟩, ⟨(some 114), (some (113, true)), (.mv (.t 13))⟩, ⟨(some 115), (some (113, true)), (.bin .neq (.t 114) (.c (.int .i64 2)))⟩, ⟨(some 116), none, (.pick (.t 113) (.t 115) (.c (.bool false)))⟩]) (.cond (.t 116) (.seq (.ops [⟨(some 6), none, (.mv (.c (.bool false)))⟩]) .ret) .skip)) (.seq (.seq (.ops [⟨(some 117), none, (.mv (.t 13))⟩, ⟨(some 118), none, (.bin .eql (.t 117) (.c (.int .i64 0)))⟩]) (.cond (.t 118) (.seq (.ops [⟨(some 120), none, (.mv (.t 12))⟩, ⟨(some 121), none, (.fld 1 (.t 11))⟩, ⟨(some 122), none, (.ld false 1 (.t 121))⟩, ⟨(some 123), none, (.fld 2 (.t 11))⟩, ⟨(some 124), none, (.ld false 1 (.t 123))⟩, ⟨(some 125), none, (.call false 11 [(.t 120), (.t 122), (.t 124)])⟩, ⟨(some 119), none, (.mv (.t 125))⟩, ⟨(some 126), none, (.ext (.t 119) 0)⟩, ⟨(some 127), none, (.ext (.t 119) 1)⟩, ⟨(some 14), none, (.alloc [(.str []), (.str []), (.int .i64 0), (.int .i64 0), (.int .i64 0)])⟩, ⟨none, none, (.sto 5 (.t 14) (.t 126))⟩, ⟨(some 15), none, (.mv (.t 127))⟩]) (.seq (.seq (.ops [⟨(some 128), none, (.mv (.t 15))⟩, ⟨(some 129), none, (.nt (.t 128))⟩, ⟨(some 130), none, (.mv (.t 129))⟩, ⟨(some 131), (some (130, false)), (.fld 4 (.t 14))⟩, ⟨(some 132), (some (130, false)), (.ld false 1 (.t 131))⟩, ⟨(some 133), (some (130, false)), (.bin .neq (.t 132) (.c (.int .i64 1)))⟩, ⟨(some 134), none, (.pick (.t 130) (.c (.bool true)) (.t 133))⟩, ⟨(some 135), none, (.mv (.t 134))⟩, ⟨(some 136), (some (135, false)), (.fld 3 (.t 14))⟩, ⟨(some 137), (some (135, false)), (.ld false 1 (.t 136))⟩, ⟨(some 138), (some (135, false)), (.fld 4 (.t 11))⟩, ⟨(some 139), (some (135, false)), (.ld false 1 (.t 138))⟩, ⟨(some 140), (some (135, false)), (.bin .neq (.t 137) (.t 139))⟩, ⟨(some 141), none, (.pick (.t 135) (.c (.bool true)) (.t 140))⟩]) (.cond (.t 141) (.seq (.ops [⟨(some 6), none, (.mv (.c (.bool false)))⟩]) .ret) .skip)) (.ops [⟨(some 142), none, (.mv (.t 12))⟩, ⟨(some 7), none, (.mv (.t 142))⟩]))) .skip)) (.seq (.ops [⟨(some 143), none, (.mv (.t 7))⟩, ⟨(some 144), none, (.fld 0 (.t 11))⟩, ⟨(some 145), none, (.ld false 1 (.t 144))⟩, ⟨(some 146), none, (.fld 4 (.t 11))⟩, ⟨(some 147), none, (.ld false 1 (.t 146))⟩, ⟨(some 148), none, (.fld 3 (.t 11))⟩, ⟨(some 149), none, (.ld false 1 (.t 148))⟩, ⟨(some 150), none, (.call false 25 [(.t 143), (.t 145), (.t 147), (.t 149)])⟩, ⟨(some 7), none, (.mv (.t 150))⟩]) (.seq (.ops [⟨(some 152), none, (.mv (.t 7))⟩, ⟨(some 153), none, (.fld 1 (.t 4))⟩, ⟨(some 154), none, (.ld false 1 (.t 153))⟩, ⟨(some 155), none, (.fld 2 (.t 4))⟩, ⟨(some 156), none, (.ld false 1 (.t 155))⟩, ⟨(some 157), none, (.call false 11 [(.t 152), (.t 154), (.t 156)])⟩, ⟨(some 151), none, (.mv (.t 157))⟩, ⟨(some 158), none, (.ext (.t 151) 0)⟩, ⟨(some 159), none, (.ext (.t 151) 1)⟩, ⟨(some 16), none, (.alloc [(.str []), (.str []), (.int .i64 0), (.int .i64 0), (.int .i64 0)])⟩, ⟨none, none, (.sto 5 (.t 16) (.t 158))⟩, ⟨(some 17), none, (.mv (.t 159))⟩]) (.seq (.ops [⟨(some 160), none, (.mv (.t 7))⟩, ⟨(some 161), none, (.call false 13 [(.t 160)])⟩, ⟨(some 162), none, (.bin .neq (.t 161) (.c (.int .i64 0)))⟩, ⟨(some 163), none, (.mv (.t 162))⟩, ⟨(some 164), (some (163, false)), (.mv (.t 9))⟩, ⟨(some 165), (some (163, false)), (.mv (.t 164))⟩, ⟨(some 166), (some (165, true)), (.mv (.t 17))⟩, ⟨(some 167), (some (165, true)), (.nt (.t 166))⟩, ⟨(some 168), (some (165, true)), (.mv (.t 167))⟩, ⟨(some 169), (some (168, false)), (.ld true 5 (.t 16))⟩, ⟨(some 170), (some (168, false)), (.ld true 5 (.t 8))⟩, ⟨(some 171), (some (168, false)), (.call false 17 [(.t 169), (.t 170)])⟩, ⟨(some 172), (some (168, false)), (.nt (.t 171))⟩, ⟨(some 173), (some (165, true)), (.pick (.t 168) (.c (.bool true)) (.t 172))⟩, ⟨(some 174), (some (163, false)), (.pick (.t 165) (.t 173) (.c (.bool false)))⟩, ⟨(some 175), none, (.pick (.t 163) (.c (.bool true)) (.t 174))⟩]) (.cond (.t 175) (.seq (.ops [⟨(some 6), none, (.mv (.c (.bool false)))⟩]) .ret) .skip))))))))) (.ops [⟨(some 73), none, (.mv (.t 10))⟩, ⟨(some 74), none, (.bin .add (.t 73) (.c (.int .i64 1)))⟩, ⟨(some 10), none, (.mv (.t 74))⟩])))))) (.seq (.ops [⟨(some 176), none, (.call false 10 [])⟩, ⟨(some 6), none, (.mv (.t 176))⟩]) .ret)))))))
theorem tr7 : Try.f7.body.bind (trCode Try.prog) = some (strip ac7) := by kernel_rfl
theorem spec7 (l : List Md) (q : Ask) (qs : List Ask) : Spec Try.prog 7 [.fz (.sl 5 (l.map encMd)), .fz (.agg (encAsk q)), .fz (.sl 5 (qs.map encAsk))] (.fz (.bool true)) := by
  refine spec_at (n := 174) (ars := [(.t 6)]) (ac := ac7) Try.func7 (by kernel_rfl) (by kernel_rfl) tr7 (by kernel_rfl) ?_
  unfold ac7
  by_cases hg : 20 < l.length ∨ 20 < qs.length ∨ ¬ chkL l = 0
  · skip
    iterate 30 (all_goals (try (first
      | ((with_reducible refine of_kSpec ?_); refine call_fz (spec13 l) rfl ?_)
      | ((with_reducible refine of_kSpec ?_); refine call_fz (spec10) rfl ?_)
      | (with_reducible refine ite_in (fun _ => ?_) (fun _ => ?_))
      | (with_reducible refine ⟨fun _ => ?_, fun _ => ?_⟩)
      | (with_reducible refine And.intro ?_ ?_)
      | (with_reducible intro _)
      | (with_reducible exact is_in _)
      | (simp -implicitDefEqProofs only [SD, SF, SL, e_nf, reduceCtorEq, implies_true, ↓reduceIte, Nat.reduceEqDiff, Nat.reduceAdd, Nat.reduceMul, Nat.reduceSub, Nat.reduceLeDiff, Nat.reduceLT, Int.reduceLT, Int.reduceLE, Int.reduceEq, Int.reduceToNat, Int.reduceAdd, Int.reduceSub, Int.reduceNeg, Int.reduceBEq, Int.reduceBNe, Nat.reduceBEq, Int.cast_ofNat_Int, decide_true, decide_false, ne_eq, eq_self_iff_true, beq_eq_false_iff_ne, bne_iff_ne, List.replicate, encMd, encAsk, *]))))
    all_goals (first | (simp_all; done) | (simp_all; omega))
  have hl20 : ¬ (20 < l.length) := fun h => hg (.inl h)
  have hq20 : ¬ (20 < qs.length) := fun h => hg (.inr (.inl h))
  have hc : chkL l = 0 := Classical.byContradiction fun h => hg (.inr (.inr h))
  clear hg
  have hb : l.length ≤ 1000 := by omega
  have h20 : ¬ ((l.length : Int) > 20) := by omega
  have h21 : ¬ ((qs.length : Int) > 20) := by omega
  have hx := spec21 l q.server q.name hb
  obtain ⟨k1, k2, k3⟩ := quar_keep q.server q.name hc
  obtain ⟨a0, ha0⟩ : ∃ r, r = quarR l q.server q.name := ⟨_, rfl⟩
  rw [← ha0] at hx k1 k2 k3
  clear ha0
  rcases k3 with ⟨hn, rfl, hf⟩ | ⟨hn, m, hf, h2⟩
  · have hget := get_none hf
    clear hn hf
    iterate 34 (all_goals (try (first
      | ((with_reducible refine of_kSpec ?_); refine call_fz (spec13 l) rfl ?_)
      | ((with_reducible refine of_kSpec ?_); refine call_fz (hx) rfl ?_)
      | ((with_reducible refine of_kSpec ?_); refine call_fz (spec11 a0 q.server q.name) rfl ?_)
      | ((with_reducible refine of_kSpec ?_); refine call_fz (spec13 a0) rfl ?_)
      | (with_reducible refine ite_in (fun _ => ?_) (fun _ => ?_))
      | (with_reducible refine ⟨fun _ => ?_, fun _ => ?_⟩)
      | (with_reducible refine And.intro ?_ ?_)
      | (with_reducible intro _)
      | (with_reducible exact is_in _)
      | (simp -implicitDefEqProofs only [SD, SF, SL, e_nf, reduceCtorEq, implies_true, ↓reduceIte, Nat.reduceEqDiff, Nat.reduceAdd, Nat.reduceMul, Nat.reduceSub, Nat.reduceLeDiff, Nat.reduceLT, Int.reduceLT, Int.reduceLE, Int.reduceEq, Int.reduceToNat, Int.reduceAdd, Int.reduceSub, Int.reduceNeg, Int.reduceBEq, Int.reduceBNe, Nat.reduceBEq, Int.cast_ofNat_Int, decide_true, decide_false, ne_eq, eq_self_iff_true, beq_eq_false_iff_ne, bne_iff_ne, List.replicate, encMd, encAsk, *]))))
    refine loop_q (X := List Ask × List Ask × List Md) (fun n x => qs = x.1 ++ x.2.1 ∧ n = x.2.1.length ∧ (chkL x.2.2 = 0 ∧ x.2.2.length ≤ 21 + x.1.length)) (fun x => [(10, .int .i64 x.1.length), (7, .sl 5 (x.2.2.map encMd))]) (fun _ => []) [6, 11, 12, 13, 14, 15, 16, 17, 69, 70, 71, 72, 73, 74, 75, 76, 77, 78, 79, 80, 81, 82, 83, 84, 85, 86, 87, 88, 89, 90, 91, 92, 93, 94, 95, 96, 97, 98, 99, 100, 101, 102, 103, 104, 105, 106, 107, 108, 109, 110, 111, 112, 113, 114, 115, 116, 117, 118, 119, 120, 121, 122, 123, 124, 125, 126, 127, 128, 129, 130, 131, 132, 133, 134, 135, 136, 137, 138, 139, 140, 141, 142, 143, 144, 145, 146, 147, 148, 149, 150, 151, 152, 153, 154, 155, 156, 157, 158, 159, 160, 161, 162, 163, 164, 165, 166, 167, 168, 169, 170, 171, 172, 173, 174, 175] [11, 14, 16]  (qs).length ([], qs, a0) ⟨rfl, rfl, by exact ⟨k1, by (simp only [List.length_nil]; omega)⟩⟩ ?_ ?_
    · simp -implicitDefEqProofs only [SD, SF, SL, e_nf, reduceCtorEq, implies_true, ↓reduceIte, Nat.reduceEqDiff, Nat.reduceAdd, Nat.reduceMul, Nat.reduceSub, Nat.reduceLeDiff, Nat.reduceLT, Int.reduceLT, Int.reduceLE, Int.reduceEq, Int.reduceToNat, Int.reduceAdd, Int.reduceSub, Int.reduceNeg, Int.reduceBEq, Int.reduceBNe, Nat.reduceBEq, Int.cast_ofNat_Int, decide_true, decide_false, ne_eq, eq_self_iff_true, beq_eq_false_iff_ne, bne_iff_ne, List.replicate, encMd, encAsk] <;> simp
    · rintro n ⟨pre, rest, a⟩ ⟨he, rfl, hI⟩
      dsimp only at he hI
      cases rest with
      | nil =>
        obtain rfl : qs = pre := by simpa using he
        clear he
        have hlt : ¬ (((qs).length : Int) < ((qs).length : Int)) := Int.lt_irrefl _
        iterate 80 (all_goals (try (first
          | ((with_reducible refine of_kSpec ?_); refine call_fz (spec10) rfl ?_)
          | (with_reducible refine ite_in (fun _ => ?_) (fun _ => ?_))
          | (with_reducible refine ⟨fun _ => ?_, fun _ => ?_⟩)
          | (with_reducible refine And.intro ?_ ?_)
          | (with_reducible intro _)
          | (with_reducible exact is_in _)
          | ((with_reducible refine eq_in ?_); (first | (simp_all; done)); done)
          | (simp -implicitDefEqProofs only [SD, SF, SL, e_nf, reduceCtorEq, implies_true, ↓reduceIte, Nat.reduceEqDiff, Nat.reduceAdd, Nat.reduceMul, Nat.reduceSub, Nat.reduceLeDiff, Nat.reduceLT, Int.reduceLT, Int.reduceLE, Int.reduceEq, Int.reduceToNat, Int.reduceAdd, Int.reduceSub, Int.reduceNeg, Int.reduceBEq, Int.reduceBNe, Nat.reduceBEq, Int.cast_ofNat_Int, decide_true, decide_false, ne_eq, eq_self_iff_true, beq_eq_false_iff_ne, bne_iff_ne, List.replicate, encMd, encAsk, *]))))
        all_goals (first | (simp_all; done))

      | cons x rest =>
        have hlt := cut_lt he
        have hx := cutD encAsk he
        simp only [encAsk] at hx
        simp -implicitDefEqProofs only [SD, SF, SL, e_nf, reduceCtorEq, implies_true, ↓reduceIte, Nat.reduceEqDiff, Nat.reduceAdd, Nat.reduceMul, Nat.reduceSub, Nat.reduceLeDiff, Nat.reduceLT, Int.reduceLT, Int.reduceLE, Int.reduceEq, Int.reduceToNat, Int.reduceAdd, Int.reduceSub, Int.reduceNeg, Int.reduceBEq, Int.reduceBNe, Nat.reduceBEq, Int.cast_ofNat_Int, decide_true, decide_false, ne_eq, eq_self_iff_true, beq_eq_false_iff_ne, bne_iff_ne, List.replicate, encMd, encAsk, hlt]
        intro hl
        have hw := wrap_len (n := pre.length) (m := (qs).length) (cut_lt' he) (by simpa using hl)
        replace he := Hd.mk he
        obtain ⟨i1, i2⟩ := hI
        have hb2 : a.length ≤ 1000 := by have := cut_lt' he.out; omega
        have hfe := spec23 a x.own x.server x.name x.size x.now hb2
        have hss := safe_step0 i1 x.own x.server x.name x.size x.now
        obtain ⟨⟨X, e⟩, hX⟩ : ∃ r, r = fetchR a x.own x.server x.name x.size x.now := ⟨_, rfl⟩
        rw [← hX] at hfe hss
        dsimp only at hfe hss
        clear hX
        rcases hss with ⟨s1, s3, s6⟩ | ⟨rfl, s6', ⟨f, sg, sh, si⟩, s3, s6⟩
        case' inl =>
          have hxe := spec25 a x.own x.now x.size hb2
          obtain ⟨Y, hY⟩ : ∃ r, r = expR a x.own x.now x.size := ⟨_, rfl⟩
          rw [← hY] at hxe s3 s6
          clear hY
        case' inr =>
          replace sg : ∀ u, x.server = u → ∀ v, x.name = v → getR X u v = (f, true) := by rintro _ rfl _ rfl; exact sg
          have hb3 : X.length ≤ 1000 := by have := cut_lt' he.out; omega
          have hxe := spec25 X x.own x.now x.size hb3
          obtain ⟨Y, hY⟩ : ∃ r, r = expR X x.own x.now x.size := ⟨_, rfl⟩
          rw [← hY] at hxe s3 s6
          clear hY
        iterate 80 (all_goals (try (first
          | ((with_reducible refine back_in rest.length [6, 11, 12, 13, 14, 15, 16, 17, 69, 70, 71, 72, 73, 74, 75, 76, 77, 78, 79, 80, 81, 82, 83, 84, 85, 86, 87, 88, 89, 90, 91, 92, 93, 94, 95, 96, 97, 98, 99, 100, 101, 102, 103, 104, 105, 106, 107, 108, 109, 110, 111, 112, 113, 114, 115, 116, 117, 118, 119, 120, 121, 122, 123, 124, 125, 126, 127, 128, 129, 130, 131, 132, 133, 134, 135, 136, 137, 138, 139, 140, 141, 142, 143, 144, 145, 146, 147, 148, 149, 150, 151, 152, 153, 154, 155, 156, 157, 158, 159, 160, 161, 162, 163, 164, 165, 166, 167, 168, 169, 170, 171, 172, 173, 174, 175] [11, 14, 16] (pre ++ [x], rest, Y) ?_ ⟨?_, ?_, ?_⟩ ?_)
             · simp
             · exact cut_snoc he.out
             · rfl
             · exact ⟨by assumption, by (simp only [List.length_append, List.length_cons, List.length_nil]; omega)⟩
             · first | (simp -implicitDefEqProofs only [SD, SF, SL, e_nf, reduceCtorEq, implies_true, ↓reduceIte, Nat.reduceEqDiff, Nat.reduceAdd, Nat.reduceMul, Nat.reduceSub, Nat.reduceLeDiff, Nat.reduceLT, Int.reduceLT, Int.reduceLE, Int.reduceEq, Int.reduceToNat, Int.reduceAdd, Int.reduceSub, Int.reduceNeg, Int.reduceBEq, Int.reduceBNe, Nat.reduceBEq, Int.cast_ofNat_Int, decide_true, decide_false, ne_eq, eq_self_iff_true, beq_eq_false_iff_ne, bne_iff_ne, List.replicate, encMd, encAsk] <;> simp <;> done) | (simp -implicitDefEqProofs only [SD, SF, SL, e_nf, reduceCtorEq, implies_true, ↓reduceIte, Nat.reduceEqDiff, Nat.reduceAdd, Nat.reduceMul, Nat.reduceSub, Nat.reduceLeDiff, Nat.reduceLT, Int.reduceLT, Int.reduceLE, Int.reduceEq, Int.reduceToNat, Int.reduceAdd, Int.reduceSub, Int.reduceNeg, Int.reduceBEq, Int.reduceBNe, Nat.reduceBEq, Int.cast_ofNat_Int, decide_true, decide_false, ne_eq, eq_self_iff_true, beq_eq_false_iff_ne, bne_iff_ne, List.replicate, encMd, encAsk, *] <;> simp_all <;> done))
          | ((with_reducible refine of_kSpec ?_); refine call_fz (hfe) rfl ?_)
          | ((with_reducible refine of_kSpec ?_); refine call_fz (spec11 X _ _) rfl ?_)
          | ((with_reducible refine of_kSpec ?_); refine call_fz (hxe) rfl ?_)
          | ((with_reducible refine of_kSpec ?_); refine call_fz (spec11 Y q.server q.name) rfl ?_)
          | ((with_reducible refine of_kSpec ?_); refine call_fz (spec13 Y) rfl ?_)
          | (with_reducible refine ite_in (fun _ => ?_) (fun _ => ?_))
          | (with_reducible refine ⟨fun _ => ?_, fun _ => ?_⟩)
          | (with_reducible refine And.intro ?_ ?_)
          | (with_reducible intro _)
          | (with_reducible exact is_in _)
          | ((with_reducible refine eq_in ?_); (first | (simp_all; done)); done)
          | (simp -implicitDefEqProofs only [SD, SF, SL, e_nf, reduceCtorEq, implies_true, ↓reduceIte, Nat.reduceEqDiff, Nat.reduceAdd, Nat.reduceMul, Nat.reduceSub, Nat.reduceLeDiff, Nat.reduceLT, Int.reduceLT, Int.reduceLE, Int.reduceEq, Int.reduceToNat, Int.reduceAdd, Int.reduceSub, Int.reduceNeg, Int.reduceBEq, Int.reduceBNe, Nat.reduceBEq, Int.cast_ofNat_Int, decide_true, decide_false, ne_eq, eq_self_iff_true, beq_eq_false_iff_ne, bne_iff_ne, List.replicate, encMd, encAsk, *]))))
        all_goals (first | (simp_all; done))
  · have hget := get_some hf
    clear hn
    iterate 34 (all_goals (try (first
      | ((with_reducible refine of_kSpec ?_); refine call_fz (spec13 l) rfl ?_)
      | ((with_reducible refine of_kSpec ?_); refine call_fz (hx) rfl ?_)
      | ((with_reducible refine of_kSpec ?_); refine call_fz (spec11 a0 q.server q.name) rfl ?_)
      | ((with_reducible refine of_kSpec ?_); refine call_fz (spec13 a0) rfl ?_)
      | (with_reducible refine ite_in (fun _ => ?_) (fun _ => ?_))
      | (with_reducible refine ⟨fun _ => ?_, fun _ => ?_⟩)
      | (with_reducible refine And.intro ?_ ?_)
      | (with_reducible intro _)
      | (with_reducible exact is_in _)
      | (simp -implicitDefEqProofs only [SD, SF, SL, e_nf, reduceCtorEq, implies_true, ↓reduceIte, Nat.reduceEqDiff, Nat.reduceAdd, Nat.reduceMul, Nat.reduceSub, Nat.reduceLeDiff, Nat.reduceLT, Int.reduceLT, Int.reduceLE, Int.reduceEq, Int.reduceToNat, Int.reduceAdd, Int.reduceSub, Int.reduceNeg, Int.reduceBEq, Int.reduceBNe, Nat.reduceBEq, Int.cast_ofNat_Int, decide_true, decide_false, ne_eq, eq_self_iff_true, beq_eq_false_iff_ne, bne_iff_ne, List.replicate, encMd, encAsk, *]))))
    refine loop_q (X := List Ask × List Ask × List Md) (fun n x => qs = x.1 ++ x.2.1 ∧ n = x.2.1.length ∧ (chkL x.2.2 = 0 ∧ x.2.2.length ≤ 21 + x.1.length ∧ findM x.2.2 q.server q.name = some m)) (fun x => [(10, .int .i64 x.1.length), (7, .sl 5 (x.2.2.map encMd))]) (fun _ => []) [6, 11, 12, 13, 14, 15, 16, 17, 69, 70, 71, 72, 73, 74, 75, 76, 77, 78, 79, 80, 81, 82, 83, 84, 85, 86, 87, 88, 89, 90, 91, 92, 93, 94, 95, 96, 97, 98, 99, 100, 101, 102, 103, 104, 105, 106, 107, 108, 109, 110, 111, 112, 113, 114, 115, 116, 117, 118, 119, 120, 121, 122, 123, 124, 125, 126, 127, 128, 129, 130, 131, 132, 133, 134, 135, 136, 137, 138, 139, 140, 141, 142, 143, 144, 145, 146, 147, 148, 149, 150, 151, 152, 153, 154, 155, 156, 157, 158, 159, 160, 161, 162, 163, 164, 165, 166, 167, 168, 169, 170, 171, 172, 173, 174, 175] [11, 14, 16]  (qs).length ([], qs, a0) ⟨rfl, rfl, by exact ⟨k1, by (simp only [List.length_nil]; omega), hf⟩⟩ ?_ ?_
    · simp -implicitDefEqProofs only [SD, SF, SL, e_nf, reduceCtorEq, implies_true, ↓reduceIte, Nat.reduceEqDiff, Nat.reduceAdd, Nat.reduceMul, Nat.reduceSub, Nat.reduceLeDiff, Nat.reduceLT, Int.reduceLT, Int.reduceLE, Int.reduceEq, Int.reduceToNat, Int.reduceAdd, Int.reduceSub, Int.reduceNeg, Int.reduceBEq, Int.reduceBNe, Nat.reduceBEq, Int.cast_ofNat_Int, decide_true, decide_false, ne_eq, eq_self_iff_true, beq_eq_false_iff_ne, bne_iff_ne, List.replicate, encMd, encAsk] <;> simp
    · rintro n ⟨pre, rest, a⟩ ⟨he, rfl, hI⟩
      dsimp only at he hI
      cases rest with
      | nil =>
        obtain rfl : qs = pre := by simpa using he
        clear he
        have hlt : ¬ (((qs).length : Int) < ((qs).length : Int)) := Int.lt_irrefl _
        iterate 80 (all_goals (try (first
          | ((with_reducible refine of_kSpec ?_); refine call_fz (spec10) rfl ?_)
          | (with_reducible refine ite_in (fun _ => ?_) (fun _ => ?_))
          | (with_reducible refine ⟨fun _ => ?_, fun _ => ?_⟩)
          | (with_reducible refine And.intro ?_ ?_)
          | (with_reducible intro _)
          | (with_reducible exact is_in _)
          | ((with_reducible refine eq_in ?_); (first | (simp_all; done)); done)
          | (simp -implicitDefEqProofs only [SD, SF, SL, e_nf, reduceCtorEq, implies_true, ↓reduceIte, Nat.reduceEqDiff, Nat.reduceAdd, Nat.reduceMul, Nat.reduceSub, Nat.reduceLeDiff, Nat.reduceLT, Int.reduceLT, Int.reduceLE, Int.reduceEq, Int.reduceToNat, Int.reduceAdd, Int.reduceSub, Int.reduceNeg, Int.reduceBEq, Int.reduceBNe, Nat.reduceBEq, Int.cast_ofNat_Int, decide_true, decide_false, ne_eq, eq_self_iff_true, beq_eq_false_iff_ne, bne_iff_ne, List.replicate, encMd, encAsk, *]))))
        all_goals (first | (simp_all; done))

      | cons x rest =>
        have hlt := cut_lt he
        have hx := cutD encAsk he
        simp only [encAsk] at hx
        simp -implicitDefEqProofs only [SD, SF, SL, e_nf, reduceCtorEq, implies_true, ↓reduceIte, Nat.reduceEqDiff, Nat.reduceAdd, Nat.reduceMul, Nat.reduceSub, Nat.reduceLeDiff, Nat.reduceLT, Int.reduceLT, Int.reduceLE, Int.reduceEq, Int.reduceToNat, Int.reduceAdd, Int.reduceSub, Int.reduceNeg, Int.reduceBEq, Int.reduceBNe, Nat.reduceBEq, Int.cast_ofNat_Int, decide_true, decide_false, ne_eq, eq_self_iff_true, beq_eq_false_iff_ne, bne_iff_ne, List.replicate, encMd, encAsk, hlt]
        intro hl
        have hw := wrap_len (n := pre.length) (m := (qs).length) (cut_lt' he) (by simpa using hl)
        replace he := Hd.mk he
        obtain ⟨i1, i2, i3⟩ := hI
        have hb2 : a.length ≤ 1000 := by have := cut_lt' he.out; omega
        have hfe := spec23 a x.own x.server x.name x.size x.now hb2
        have hss := safe_step i1 i3 h2 x.own x.server x.name x.size x.now
        obtain ⟨⟨X, e⟩, hX⟩ : ∃ r, r = fetchR a x.own x.server x.name x.size x.now := ⟨_, rfl⟩
        rw [← hX] at hfe hss
        dsimp only at hfe hss
        clear hX
        rcases hss with ⟨s1, s2, s3, s4, s5, s6⟩ | ⟨rfl, s2, s6', ⟨f, sg, sh, si⟩, s3, s4, s5, s6⟩
        case' inl =>
          have hxe := spec25 a x.own x.now x.size hb2
          obtain ⟨Y, hY⟩ : ∃ r, r = expR a x.own x.now x.size := ⟨_, rfl⟩
          rw [← hY] at hxe s3 s4 s5 s6
          clear hY
        case' inr =>
          replace sg : ∀ u, x.server = u → ∀ v, x.name = v → getR X u v = (f, true) := by rintro _ rfl _ rfl; exact sg
          have hb3 : X.length ≤ 1000 := by have := cut_lt' he.out; omega
          have hxe := spec25 X x.own x.now x.size hb3
          obtain ⟨Y, hY⟩ : ∃ r, r = expR X x.own x.now x.size := ⟨_, rfl⟩
          rw [← hY] at hxe s3 s4 s5 s6
          clear hY
        iterate 80 (all_goals (try (first
          | ((with_reducible refine back_in rest.length [6, 11, 12, 13, 14, 15, 16, 17, 69, 70, 71, 72, 73, 74, 75, 76, 77, 78, 79, 80, 81, 82, 83, 84, 85, 86, 87, 88, 89, 90, 91, 92, 93, 94, 95, 96, 97, 98, 99, 100, 101, 102, 103, 104, 105, 106, 107, 108, 109, 110, 111, 112, 113, 114, 115, 116, 117, 118, 119, 120, 121, 122, 123, 124, 125, 126, 127, 128, 129, 130, 131, 132, 133, 134, 135, 136, 137, 138, 139, 140, 141, 142, 143, 144, 145, 146, 147, 148, 149, 150, 151, 152, 153, 154, 155, 156, 157, 158, 159, 160, 161, 162, 163, 164, 165, 166, 167, 168, 169, 170, 171, 172, 173, 174, 175] [11, 14, 16] (pre ++ [x], rest, Y) ?_ ⟨?_, ?_, ?_⟩ ?_)
             · simp
             · exact cut_snoc he.out
             · rfl
             · exact ⟨by assumption, by (simp only [List.length_append, List.length_cons, List.length_nil]; omega), by assumption⟩
             · first | (simp -implicitDefEqProofs only [SD, SF, SL, e_nf, reduceCtorEq, implies_true, ↓reduceIte, Nat.reduceEqDiff, Nat.reduceAdd, Nat.reduceMul, Nat.reduceSub, Nat.reduceLeDiff, Nat.reduceLT, Int.reduceLT, Int.reduceLE, Int.reduceEq, Int.reduceToNat, Int.reduceAdd, Int.reduceSub, Int.reduceNeg, Int.reduceBEq, Int.reduceBNe, Nat.reduceBEq, Int.cast_ofNat_Int, decide_true, decide_false, ne_eq, eq_self_iff_true, beq_eq_false_iff_ne, bne_iff_ne, List.replicate, encMd, encAsk] <;> simp <;> done) | (simp -implicitDefEqProofs only [SD, SF, SL, e_nf, reduceCtorEq, implies_true, ↓reduceIte, Nat.reduceEqDiff, Nat.reduceAdd, Nat.reduceMul, Nat.reduceSub, Nat.reduceLeDiff, Nat.reduceLT, Int.reduceLT, Int.reduceLE, Int.reduceEq, Int.reduceToNat, Int.reduceAdd, Int.reduceSub, Int.reduceNeg, Int.reduceBEq, Int.reduceBNe, Nat.reduceBEq, Int.cast_ofNat_Int, decide_true, decide_false, ne_eq, eq_self_iff_true, beq_eq_false_iff_ne, bne_iff_ne, List.replicate, encMd, encAsk, *] <;> simp_all <;> done))
          | ((with_reducible refine of_kSpec ?_); refine call_fz (hfe) rfl ?_)
          | ((with_reducible refine of_kSpec ?_); refine call_fz (spec11 X _ _) rfl ?_)
          | ((with_reducible refine of_kSpec ?_); refine call_fz (hxe) rfl ?_)
          | ((with_reducible refine of_kSpec ?_); refine call_fz (spec11 Y q.server q.name) rfl ?_)
          | ((with_reducible refine of_kSpec ?_); refine call_fz (spec13 Y) rfl ?_)
          | ((with_reducible refine of_kSpec ?_)
             refine call_sub (ds' := [.agg (encMd m), .agg (encMd m)]) (spec17 m m) rfl ?_ ?_
             · simp -implicitDefEqProofs only [SD, SF, SL, e_nf, reduceCtorEq, implies_true, ↓reduceIte, Nat.reduceEqDiff, Nat.reduceAdd, Nat.reduceMul, Nat.reduceSub, Nat.reduceLeDiff, Nat.reduceLT, Int.reduceLT, Int.reduceLE, Int.reduceEq, Int.reduceToNat, Int.reduceAdd, Int.reduceSub, Int.reduceNeg, Int.reduceBEq, Int.reduceBNe, Nat.reduceBEq, Int.cast_ofNat_Int, decide_true, decide_false, ne_eq, eq_self_iff_true, beq_eq_false_iff_ne, bne_iff_ne, List.replicate, encMd, *]
               done)
          | (with_reducible refine ite_in (fun _ => ?_) (fun _ => ?_))
          | (with_reducible refine ⟨fun _ => ?_, fun _ => ?_⟩)
          | (with_reducible refine And.intro ?_ ?_)
          | (with_reducible intro _)
          | (with_reducible exact is_in _)
          | ((with_reducible refine eq_in ?_); (first | (simp_all; done)); done)
          | (simp -implicitDefEqProofs only [SD, SF, SL, e_nf, reduceCtorEq, implies_true, ↓reduceIte, Nat.reduceEqDiff, Nat.reduceAdd, Nat.reduceMul, Nat.reduceSub, Nat.reduceLeDiff, Nat.reduceLT, Int.reduceLT, Int.reduceLE, Int.reduceEq, Int.reduceToNat, Int.reduceAdd, Int.reduceSub, Int.reduceNeg, Int.reduceBEq, Int.reduceBNe, Nat.reduceBEq, Int.cast_ofNat_Int, decide_true, decide_false, ne_eq, eq_self_iff_true, beq_eq_false_iff_ne, bne_iff_ne, List.replicate, encMd, encAsk, *]))))
        all_goals (first | (simp_all; done))

end Go.Proofs.Ytfcjmblhcakhaaa.E
