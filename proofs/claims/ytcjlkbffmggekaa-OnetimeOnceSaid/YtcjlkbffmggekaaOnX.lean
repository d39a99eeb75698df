/-
  OnX: walks of functions of the program at data level.
-/
import Derived.Test.YtcjlkbffmggekaaProg
import Derived.Test.YtcjlkbffmggekaaEngZ
import Derived.Test.YtcjlkbffmggekaaOnX2
import Derived.Test.YtcjlkbffmggekaaOnX3
import Derived.Test.YtcjlkbffmggekaaOnX4
import Derived.Test.YtcjlkbffmggekaaOnX5
import Derived.KernelRfl
import Derived.Test.YtcjlkbffmggekaaRows
set_option linter.unusedVariables false
set_option linter.unusedSimpArgs false
namespace Go.Proofs.Ytcjlkbffmggekaa.E
open Go
set_option maxHeartbeats 4000000
set_option maxRecDepth 100000
set_option linter.unusedSimpArgs false
set_option linter.unusedVariables false
attribute [local congr] c_wp c_ops c_op c_opS c_run c_runS c_dt c_seq c_blk c_loop c_S c_put c_bind c_mv c_pick c_nt c_ng c_bin c_binI c_binS c_beq c_B c_eqa c_hd c_cells c_blkK c_box c_vec c_mp c_nck c_mks c_appn c_mkm c_mput c_mlk c_mrm c_take c_ld c_ldF c_cellsK c_st c_fld c_fldv c_ix c_ixp c_ixv c_ixs c_sub c_subs c_len c_lens c_src c_dst c_ow c_app c_ext c_mm c_conv c_str c_isn c_fill c_rows c_boxo c_frz c_frzO c_frzA c_frzV c_spec c_specO c_opsP c_opP c_runP c_specP c_Z c_qretP c_fz c_fn c_gv c_cond c_res1 c_resL c_ret c_qret c_ite c_unr c_nx c_bk c_cut c_is
attribute [local irreducible] dwp

theorem loop_s {P : Program} {Q : AE → DS → Prop} {X : Type} {c : AC} {s : DS} (R : Nat → X → Prop) (st : X → DS) (ts ks : List Nat) (n0 : Nat) (x0 : X) (hR : R n0 x0) (h0 : forget ts ks s = st x0)
    (hr : ∀ n x, R n x → dwp P c (st x) (kLoop (kBk R st n) Q)) : dwp P (.loop c) s Q := by
  unfold dwp
  refine ⟨fun n s => ∃ x, R n x ∧ s = st x, n0, ts, ks, ⟨x0, hR, h0⟩, ?_⟩
  rintro n s ⟨x, hx, rfl⟩
  exact hr n x hx
def ac7 : AC := (.seq (.ops [⟨(some 2), none, (.mv (.c (.bool false)))⟩]) (.seq (.seq (.ops [⟨(some 15), none, (.mv (.t 0))⟩, ⟨(some 16), none, (.len (.t 15))⟩, ⟨(some 17), none, (.bin .gtr (.t 16) (.c (.int .i64 60)))⟩]) (.cond (.t 17) (.seq (.ops [⟨(some 18), none, (.call false 9 [])⟩, ⟨(some 2), none, (.mv (.t 18))⟩]) .ret) .skip)) (.seq (.ops [⟨(some 3), none, (.mv (.c .e0))⟩]) (.seq (.ops [⟨(some 19), none, (.build [(.int .i64 0), (.int .i64 0)] [])⟩, ⟨(some 20), none, (.build [(.int .i64 0), (.int .i64 0)] [])⟩, ⟨(some 4), none, (.alloc [(.int .i64 0), (.int .i64 0)])⟩, ⟨(some 5), none, (.alloc [(.int .i64 0), (.int .i64 0)])⟩, ⟨none, none, (.sto 2 (.t 4) (.t 19))⟩, ⟨none, none, (.sto 2 (.t 5) (.t 20))⟩]) (.seq (.ops [⟨(some 21), none, (.build [(.str []), (.str [])] [(0, (1, (.c (.str [112, 104, 111, 110, 101])))), (1, (1, (.c (.str [100, 101, 115, 107]))))])⟩, ⟨(some 6), none, (.alloc [(.str []), (.str [])])⟩, ⟨none, none, (.sto 2 (.t 6) (.t 21))⟩]) (.seq (.seq (.ops [⟨(some 7), none, (.mv (.c (.int .i64 0)))⟩]) (.block 0 (.loop (.seq (.seq (.ops [⟨(some 22), none, (.mv (.t 7))⟩, ⟨(some 23), none, (.mv (.t 0))⟩, ⟨(some 24), none, (.len (.t 23))⟩, ⟨(some 25), none, (.bin .lss (.t 22) (.t 24))⟩]) (.cond (.t 25) .skip (.exit 0))) (.seq (.block 1 (.seq (.ops [⟨(some 8), none, (.mv (.c (.int .i64 0)))⟩]) (.seq (.seq (.ops [⟨(some 28), none, (.mv (.t 0))⟩, ⟨(some 29), none, (.mv (.t 7))⟩, ⟨(some 30), none, (.ix 2 (.t 28) (.t 29))⟩, ⟨(some 31), none, (.fld 0 (.t 30))⟩, ⟨(some 32), none, (.ld false 1 (.t 31))⟩]) (.cond (.t 32) (.ops [⟨(some 8), none, (.mv (.c (.int .i64 1)))⟩]) .skip)) (.seq (.seq (.ops [⟨(some 33), none, (.mv (.t 0))⟩, ⟨(some 34), none, (.mv (.t 7))⟩, ⟨(some 35), none, (.ix 2 (.t 33) (.t 34))⟩, ⟨(some 36), none, (.fld 1 (.t 35))⟩, ⟨(some 37), none, (.ld false 1 (.t 36))⟩, ⟨(some 38), none, (.bin .neq (.t 37) (.c (.int .i64 0)))⟩]) (.cond (.t 38) (.seq (.draw (.q false ⟨(some 40), none, (.mv (.t 3))⟩ (.q false ⟨(some 41), none, (.mv (.t 8))⟩ (.q false ⟨(some 42), none, (.ixp 2 1 (.t 6) (.t 41))⟩ (.q false ⟨(some 43), none, (.ld false 1 (.t 42))⟩ (.q false ⟨(some 44), none, (.mv (.t 0))⟩ (.q false ⟨(some 45), none, (.mv (.t 7))⟩ (.q false ⟨(some 46), none, (.ix 2 (.t 44) (.t 45))⟩ (.q false ⟨(some 47), none, (.fld 1 (.t 46))⟩ (.q false ⟨(some 48), none, (.ld false 1 (.t 47))⟩ (.op ⟨(some 49), none, (.call false 12 [(.t 40), (.c (.str [64, 97, 110, 110, 58, 97])), (.t 43), (.t 48)])⟩ (.q false ⟨(some 39), none, (.mv (.t 49))⟩ (.alt (.op ⟨(some 50), none, (.ext (.t 39) 0)⟩ (.q true ⟨(some 9), none, (.mv (.t 50))⟩ (.op ⟨(some 51), none, (.ext (.t 39) 1)⟩ (.q false ⟨(some 10), none, (.mv (.t 51))⟩ .nil)))) (.op ⟨(some 51), none, (.ext (.t 39) 1)⟩ (.op ⟨(some 50), none, (.ext (.t 39) 0)⟩ (.q false ⟨(some 9), none, (.mv (.t 50))⟩ (.q false ⟨(some 10), none, (.mv (.t 51))⟩ .nil))))))))))))))))) (.seq (.draw (.q false ⟨(some 52), none, (.mv (.t 0))⟩ (.q false ⟨(some 53), none, (.mv (.t 7))⟩ (.q false ⟨(some 54), none, (.ix 2 (.t 52) (.t 53))⟩ (.q false ⟨(some 55), none, (.fld 1 (.t 54))⟩ (.q false ⟨(some 56), none, (.ld false 1 (.t 55))⟩ (.q false ⟨(some 57), none, (.bin .geq (.t 56) (.c (.int .i64 1)))⟩ (.q false ⟨(some 58), none, (.mv (.t 57))⟩ (.q false ⟨(some 59), (some (58, true)), (.mv (.t 0))⟩ (.q false ⟨(some 60), (some (58, true)), (.mv (.t 7))⟩ (.q false ⟨(some 61), (some (58, true)), (.ix 2 (.t 59) (.t 60))⟩ (.q false ⟨(some 62), (some (58, true)), (.fld 1 (.t 61))⟩ (.q false ⟨(some 63), (some (58, true)), (.ld false 1 (.t 62))⟩ (.q false ⟨(some 64), (some (58, true)), (.bin .leq (.t 63) (.c (.int .i64 100)))⟩ (.q false ⟨(some 65), none, (.pick (.t 58) (.t 64) (.c (.bool false)))⟩ (.q false ⟨(some 66), none, (.mv (.t 65))⟩ (.q false ⟨(some 67), (some (66, true)), (.mv (.t 8))⟩ (.q false ⟨(some 68), (some (66, true)), (.ixp 2 1 (.t 4) (.t 67))⟩ (.q false ⟨(some 69), (some (66, true)), (.ld false 1 (.t 68))⟩ (.q false ⟨(some 70), (some (66, true)), (.mv (.t 8))⟩ (.q false ⟨(some 71), (some (66, true)), (.ixp 2 1 (.t 5) (.t 70))⟩ (.q false ⟨(some 72), (some (66, true)), (.ld false 1 (.t 71))⟩ (.q false ⟨(some 73), (some (66, true)), (.bin .sub (.t 69) (.t 72))⟩ (.q false ⟨(some 74), (some (66, true)), (.mv (.t 0))⟩ (.q false ⟨(some 75), (some (66, true)), (.mv (.t 7))⟩ (.q false ⟨(some 76), (some (66, true)), (.ix 2 (.t 74) (.t 75))⟩ (.q false ⟨(some 77), (some (66, true)), (.fld 1 (.t 76))⟩ (.q false ⟨(some 78), (some (66, true)), (.ld false 1 (.t 77))⟩ (.q false ⟨(some 79), (some (66, true)), (.bin .sub (.c (.int .i64 200)) (.t 78))⟩ (.q false ⟨(some 80), (some (66, true)), (.bin .leq (.t 73) (.t 79))⟩ (.q false ⟨(some 81), none, (.pick (.t 66) (.t 80) (.c (.bool false)))⟩ (.q false ⟨(some 11), none, (.mv (.t 81))⟩ .nil)))))))))))))))))))))))))))))))) (.seq (.seq (.ops [⟨(some 82), none, (.mv (.t 11))⟩, ⟨(some 83), none, (.mv (.t 10))⟩, ⟨(some 84), none, (.bin .eql (.t 83) (.c (.int .i64 0)))⟩, ⟨(some 85), none, (.beq true (.t 82) (.t 84))⟩]) (.cond (.t 85) (.seq (.ops [⟨(some 2), none, (.mv (.c (.bool false)))⟩]) .ret) .skip)) (.seq (.ops [⟨(some 86), none, (.mv (.t 11))⟩]) (.cond (.t 86) (.seq (.ops [⟨(some 87), none, (.mv (.t 9))⟩, ⟨(some 3), none, (.mv (.t 87))⟩]) (.draw (.q false ⟨(some 88), none, (.mv (.t 8))⟩ (.q false ⟨(some 89), none, (.mv (.t 8))⟩ (.q false ⟨(some 90), none, (.ixp 2 1 (.t 4) (.t 89))⟩ (.q false ⟨(some 91), none, (.ld false 1 (.t 90))⟩ (.q false ⟨(some 92), none, (.mv (.t 0))⟩ (.q false ⟨(some 93), none, (.mv (.t 7))⟩ (.q false ⟨(some 94), none, (.ix 2 (.t 92) (.t 93))⟩ (.q false ⟨(some 95), none, (.fld 1 (.t 94))⟩ (.q false ⟨(some 96), none, (.ld false 1 (.t 95))⟩ (.q false ⟨(some 97), none, (.bin .add (.t 91) (.t 96))⟩ (.q false ⟨(some 98), none, (.ixp 2 1 (.t 4) (.t 88))⟩ (.op ⟨none, none, (.sto 1 (.t 98) (.t 97))⟩ .nil)))))))))))))) .skip))))) (.seq (.ops [⟨(some 100), none, (.mv (.t 3))⟩, ⟨(some 101), none, (.mv (.t 8))⟩, ⟨(some 102), none, (.ixp 2 1 (.t 6) (.t 101))⟩, ⟨(some 103), none, (.ld false 1 (.t 102))⟩, ⟨(some 104), none, (.call false 15 [(.t 100), (.c (.str [64, 97, 110, 110, 58, 97])), (.t 103)])⟩, ⟨(some 99), none, (.mv (.t 104))⟩, ⟨(some 105), none, (.ext (.t 99) 0)⟩, ⟨(some 106), none, (.ext (.t 99) 1)⟩, ⟨(some 107), none, (.ext (.t 99) 2)⟩, ⟨(some 12), none, (.mv (.t 105))⟩, ⟨(some 13), none, (.mv (.t 106))⟩, ⟨(some 14), none, (.mv (.t 107))⟩]) (.seq (.seq (.draw (.q false ⟨(some 108), none, (.mv (.t 14))⟩ (.q false ⟨(some 109), none, (.bin .eql (.t 108) (.c (.int .i64 0)))⟩ (.q false ⟨(some 110), none, (.mv (.t 8))⟩ (.q false ⟨(some 111), none, (.ixp 2 1 (.t 5) (.t 110))⟩ (.q false ⟨(some 112), none, (.ld false 1 (.t 111))⟩ (.q false ⟨(some 113), none, (.mv (.t 8))⟩ (.q false ⟨(some 114), none, (.ixp 2 1 (.t 4) (.t 113))⟩ (.q false ⟨(some 115), none, (.ld false 1 (.t 114))⟩ (.q false ⟨(some 116), none, (.bin .lss (.t 112) (.t 115))⟩ (.q false ⟨(some 117), none, (.beq true (.t 109) (.t 116))⟩ (.q false ⟨(some 118), none, (.mv (.t 117))⟩ (.q false ⟨(some 119), (some (118, false)), (.mv (.t 14))⟩ (.q false ⟨(some 120), (some (118, false)), (.bin .eql (.t 119) (.c (.int .i64 0)))⟩ (.q false ⟨(some 121), (some (118, false)), (.mv (.t 120))⟩ (.q false ⟨(some 122), (some (121, true)), (.mv (.t 13))⟩ (.q false ⟨(some 123), (some (121, true)), (.mv (.t 8))⟩ (.q false ⟨(some 124), (some (121, true)), (.ixp 2 1 (.t 5) (.t 123))⟩ (.q false ⟨(some 125), (some (121, true)), (.ld false 1 (.t 124))⟩ (.q false ⟨(some 126), (some (121, true)), (.bin .neq (.t 122) (.t 125))⟩ (.q false ⟨(some 127), (some (118, false)), (.pick (.t 121) (.t 126) (.c (.bool false)))⟩ (.q false ⟨(some 128), none, (.pick (.t 118) (.c (.bool true)) (.t 127))⟩ .nil)))))))))))))))))))))) (.cond (.t 128) (.seq (.ops [⟨(some 2), none, (.mv (.c (.bool false)))⟩]) .ret) .skip)) (.seq (.ops [⟨(some 129), none, (.mv (.t 14))⟩, ⟨(some 130), none, (.bin .eql (.t 129) (.c (.int .i64 0)))⟩]) (.cond (.t 130) (.seq (.ops [⟨(some 131), none, (.mv (.t 12))⟩, ⟨(some 3), none, (.mv (.t 131))⟩]) (.ops [⟨(some 132), none, (.mv (.t 8))⟩, ⟨(some 133), none, (.mv (.t 8))⟩, ⟨(some 134), none, (.ixp 2 1 (.t 5) (.t 133))⟩, ⟨(some 135), none, (.ld false 1 (.t 134))⟩, ⟨(some 136), none, (.bin .add (.t 135) (.c (.int .i64 1)))⟩, ⟨(some 137), none, (.ixp 2 1 (.t 5) (.t 132))⟩, ⟨none, none, (.sto 1 (.t 137) (.t 136))⟩])) .skip)))))) (.seq (.draw (.q false ⟨(some 138), none, (.mv (.t 3))⟩ (.op ⟨(some 139), none, (.call false 10 [(.t 138)])⟩ (.q false ⟨(some 140), none, (.bin .neq (.t 139) (.c (.int .i64 0)))⟩ (.q false ⟨(some 141), none, (.mv (.t 140))⟩ (.q false ⟨(some 142), (some (141, false)), (.mv (.t 3))⟩ (.q false ⟨(some 144), (some (141, false)), (.ixp 2 1 (.t 4) (.c (.int .i64 0)))⟩ (.q false ⟨(some 145), (some (141, false)), (.ld false 1 (.t 144))⟩ (.q false ⟨(some 146), (some (141, false)), (.ixp 2 1 (.t 5) (.c (.int .i64 0)))⟩ (.q false ⟨(some 147), (some (141, false)), (.ld false 1 (.t 146))⟩ (.q false ⟨(some 148), (some (141, false)), (.bin .sub (.t 145) (.t 147))⟩ (.op ⟨(some 143), (some (141, false)), (.call false 17 [(.t 142), (.c (.str [64, 97, 110, 110, 58, 97])), (.c (.str [112, 104, 111, 110, 101]))])⟩ (.q false ⟨(some 149), (some (141, false)), (.bin .neq (.t 143) (.t 148))⟩ (.q false ⟨(some 150), none, (.pick (.t 141) (.c (.bool true)) (.t 149))⟩ (.q false ⟨(some 151), none, (.mv (.t 150))⟩ (.q false ⟨(some 152), (some (151, false)), (.mv (.t 3))⟩ (.q false ⟨(some 154), (some (151, false)), (.ixp 2 1 (.t 4) (.c (.int .i64 1)))⟩ (.q false ⟨(some 155), (some (151, false)), (.ld false 1 (.t 154))⟩ (.q false ⟨(some 156), (some (151, false)), (.ixp 2 1 (.t 5) (.c (.int .i64 1)))⟩ (.q false ⟨(some 157), (some (151, false)), (.ld false 1 (.t 156))⟩ (.q false ⟨(some 158), (some (151, false)), (.bin .sub (.t 155) (.t 157))⟩ (.op ⟨(some 153), (some (151, false)), (.call false 17 [(.t 152), (.c (.str [64, 97, 110, 110, 58, 97])), (.c (.str [100, 101, 115, 107]))])⟩ (.q false ⟨(some 159), (some (151, false)), (.bin .neq (.t 153) (.t 158))⟩ (.q false ⟨(some 160), none, (.pick (.t 151) (.c (.bool true)) (.t 159))⟩ .nil)))))))))))))))))))))))) (.cond (.t 160) (.seq (.ops [⟨(some 2), none, (.mv (.c (.bool false)))⟩]) .ret) .skip)))))) (.ops [⟨(some 26), none, (.mv (.t 7))⟩, ⟨(some 27), none, (.bin .add (.t 26) (.c (.int .i64 1)))⟩, ⟨(some 7), none, (.mv (.t 27))⟩])))))) (.seq (.ops [⟨(some 161), none, (.call false 9 [])⟩, ⟨(some 2), none, (.mv (.t 161))⟩]) .ret)))))))
theorem tr7 : Try.f7.body.bind (trCode Try.prog) = some (strip ac7) := by kernel_rfl
theorem spec7 (ss : List Stp) : Spec Try.prog 7 [.fz (.sl 2 (ss.map encStp))] (.fz (.bool true)) := by
  refine spec_at (n := 161) (ars := [(.t 2)]) (ac := ac7) Try.func7 (by kernel_rfl) (by kernel_rfl) tr7 (by kernel_rfl) ?_
  unfold ac7
  by_cases hb : ss.length ≤ 60
  case neg =>
    have hb' : (60 : Int) < (ss.length : Int) := by omega
    iterate 30 (all_goals (try (first
      | ((with_reducible refine of_kSpec ?_); refine call_fz (spec9) rfl ?_)
      | (with_reducible refine ite_in (fun _ => ?_) (fun _ => ?_))
      | (with_reducible refine ⟨fun _ => ?_, fun _ => ?_⟩)
      | (with_reducible refine And.intro ?_ ?_)
      | (with_reducible intro _)
      | (with_reducible exact is_in _)
      | (simp -implicitDefEqProofs only [SD, SF, SL, e_nf, reduceCtorEq, implies_true, ↓reduceIte, Nat.reduceEqDiff, Nat.reduceAdd, Nat.reduceMul, Nat.reduceSub, Nat.reduceLeDiff, Nat.reduceLT, Int.reduceLT, Int.reduceLE, Int.reduceEq, Int.reduceToNat, Int.reduceAdd, Int.reduceSub, Int.reduceNeg, Int.reduceBEq, Int.reduceBNe, Nat.reduceBEq, Int.cast_ofNat_Int, decide_true, decide_false, ne_eq, eq_self_iff_true, beq_eq_false_iff_ne, bne_iff_ne, List.replicate, *]))))
    all_goals (first | rfl | (simp_all; done) | (simp_all; omega))
  have hb' : ¬ (60 : Int) < (ss.length : Int) := by omega
  iterate 16 (all_goals (try (first
    | (with_reducible refine ite_in (fun _ => ?_) (fun _ => ?_))
    | (with_reducible refine ⟨fun _ => ?_, fun _ => ?_⟩)
    | (with_reducible refine And.intro ?_ ?_)
    | (with_reducible intro _)
    | (with_reducible exact is_in _)
    | (simp -implicitDefEqProofs only [SD, SF, SL, e_nf, reduceCtorEq, implies_true, ↓reduceIte, Nat.reduceEqDiff, Nat.reduceAdd, Nat.reduceMul, Nat.reduceSub, Nat.reduceLeDiff, Nat.reduceLT, Int.reduceLT, Int.reduceLE, Int.reduceEq, Int.reduceToNat, Int.reduceAdd, Int.reduceSub, Int.reduceNeg, Int.reduceBEq, Int.reduceBNe, Nat.reduceBEq, Int.cast_ofNat_Int, decide_true, decide_false, ne_eq, eq_self_iff_true, beq_eq_false_iff_ne, bne_iff_ne, List.replicate, *]))))
  refine loop_s (c := bd7) (R7 ss) (st7 ss) [1, 8, 9, 10, 11, 12, 13, 14, 15, 16, 17, 18, 19, 20, 21, 22, 23, 24, 25, 26, 27, 28, 29, 30, 31, 32, 33, 34, 35, 36, 37, 38, 39, 40, 41, 42, 43, 44, 45, 46, 47, 48, 49, 50, 51, 52, 53, 54, 55, 56, 57, 58, 59, 60, 61, 62, 63, 64, 65, 66, 67, 68, 69, 70, 71, 72, 73, 74, 75, 76, 77, 78, 79, 80, 81, 82, 83, 84, 85, 86, 87, 88, 89, 90, 91, 92, 93, 94, 95, 96, 97, 98, 99, 100, 101, 102, 103, 104, 105, 106, 107, 108, 109, 110, 111, 112, 113, 114, 115, 116, 117, 118, 119, 120, 121, 122, 123, 124, 125, 126, 127, 128, 129, 130, 131, 132, 133, 134, 135, 136, 137, 138, 139, 140, 141, 142, 143, 144, 145, 146, 147, 148, 149, 150, 151, 152, 153, 154, 155, 156, 157, 158, 159, 160, 161] [] ss.length ([], ss, .e0, 0, 0, 0, 0) ⟨rfl, rfl, .inl ⟨rfl, rfl, rfl, rfl, rfl⟩, iv0⟩ ?_ ?_
  · simp -implicitDefEqProofs only [SD, SF, SL, e_nf, reduceCtorEq, implies_true, ↓reduceIte, Nat.reduceEqDiff, Nat.reduceAdd, Nat.reduceMul, Nat.reduceSub, Nat.reduceLeDiff, Nat.reduceLT, Int.reduceLT, Int.reduceLE, Int.reduceEq, Int.reduceToNat, Int.reduceAdd, Int.reduceSub, Int.reduceNeg, Int.reduceBEq, Int.reduceBNe, Nat.reduceBEq, Int.cast_ofNat_Int, decide_true, decide_false, ne_eq, eq_self_iff_true, beq_eq_false_iff_ne, bne_iff_ne, List.replicate, st7] <;> simp
  · rintro n ⟨pre, rest, h3, pu, pc, du, dc⟩ ⟨he, rfl, hv, hiv⟩
    dsimp only at he hv hiv
    cases rest with
    | nil =>
      obtain rfl : ss = pre := by simpa using he
      clear he
      have hlt : ¬ ((ss.length : Int) < (ss.length : Int)) := Int.lt_irrefl _
      have hml : ss.length ≤ maxLen := by simp only [maxLen]; omega
      unfold bd7 st7
      iterate 30 (all_goals (try (first
        | ((with_reducible refine of_kSpec ?_); refine call_fz (spec9) rfl ?_)
        | (with_reducible refine ite_in (fun _ => ?_) (fun _ => ?_))
        | (with_reducible refine ⟨fun _ => ?_, fun _ => ?_⟩)
        | (with_reducible refine And.intro ?_ ?_)
        | (with_reducible intro _)
        | (with_reducible exact is_in _)
        | (simp -implicitDefEqProofs only [SD, SF, SL, e_nf, reduceCtorEq, implies_true, ↓reduceIte, Nat.reduceEqDiff, Nat.reduceAdd, Nat.reduceMul, Nat.reduceSub, Nat.reduceLeDiff, Nat.reduceLT, Int.reduceLT, Int.reduceLE, Int.reduceEq, Int.reduceToNat, Int.reduceAdd, Int.reduceSub, Int.reduceNeg, Int.reduceBEq, Int.reduceBNe, Nat.reduceBEq, Int.cast_ofNat_Int, decide_true, decide_false, ne_eq, eq_self_iff_true, beq_eq_false_iff_ne, bne_iff_ne, List.replicate, *]))))
      all_goals (first | rfl | (simp_all; done) | trace_state)
    | cons x rest =>
      obtain ⟨ot, n⟩ := x
      rcases hv with ⟨rfl, rfl, rfl, rfl, rfl⟩ | rfl
      · cases ot with
        | false => exact rdE0P ss pre rest n hb he hiv _
        | true => exact rdE0D ss pre rest n hb he hiv _
      · cases ot with
        | false => exact rdLP ss pre rest n pu pc du dc hb he hiv _
        | true => exact rdLD ss pre rest n pu pc du dc hb he hiv _


end Go.Proofs.Ytcjlkbffmggekaa.E

namespace Go.Proofs.Ytcjlkbffmggekaa.E
open Go Go.ChangeShapes Go.WideShapes Go.ChangeAt Go.RowKit
set_option linter.unusedVariables false
set_option linter.unusedSimpArgs false

theorem own0 : ownKnob Try.prog.godebug = none := by kernel_rfl
theorem laid0 : laidOutB Try.prog = true := by kernel_rfl
theorem typed_list {T : Type} {enc : T → List DV} {l : List CT} (h : ∀ ds, Typeds l ds → ∃ t, ds = enc t) {d : DV} (hd : Typed (.sl l) d) : ∃ ts : List T, d = .sl (ctLen l) (ts.map enc) ∧ ts.length ≤ maxLen := by
  rw [Typed] at hd
  obtain ⟨xs, rfl, h1, h2⟩ := hd
  have : ∀ xs : List (List DV), (∀ x ∈ xs, Typeds l x) → ∃ ts : List T, xs = ts.map enc := by
    intro xs
    induction xs with
    | nil => exact fun _ => ⟨[], rfl⟩
    | cons x xs ih =>
      intro hx
      obtain ⟨t, ht⟩ := h x (hx x (by simp))
      obtain ⟨ts, hts⟩ := ih fun y hy => hx y (by simp [hy])
      exact ⟨t :: ts, by simp [ht, hts]⟩
  obtain ⟨ts, rfl⟩ := this xs h2
  exact ⟨ts, rfl, by simpa using h1⟩
theorem all2_1 {R : AT → DV → Prop} {a : AT} {ds : List DV} (h : All2 R [a] ds) : ∃ d, ds = [d] ∧ R a d := by
  obtain ⟨d, r, rfl, h1, h2⟩ := h
  cases h2
  exact ⟨d, rfl, h1⟩
theorem all2_2 {R : AT → DV → Prop} {a b : AT} {ds : List DV} (h : All2 R [a, b] ds) : ∃ d e, ds = [d, e] ∧ R a d ∧ R b e := by
  obtain ⟨d, r, rfl, h1, e, r', rfl, h2, h3⟩ := h
  cases h3
  exact ⟨d, e, rfl, h1, h2⟩
theorem all2_3 {R : AT → DV → Prop} {a b c : AT} {ds : List DV} (h : All2 R [a, b, c] ds) : ∃ d e f, ds = [d, e, f] ∧ R a d ∧ R b e ∧ R c f := by
  obtain ⟨d, r, rfl, h1, e, r', rfl, h2, f, r'', rfl, h3, h4⟩ := h
  cases h4
  exact ⟨d, e, f, rfl, h1, h2, h3⟩
theorem ty_int {k : IntKind} {d : DV} (h : TypedA (.c (.i k)) d) : ∃ n, d = .int k n := by
  rw [TypedA, Typed] at h
  obtain ⟨n, rfl, _⟩ := h
  exact ⟨n, rfl⟩
theorem ty_str {d : DV} (h : TypedA (.c .s) d) : ∃ s, d = .str s := by
  rw [TypedA, Typed] at h
  obtain ⟨n, rfl, _⟩ := h
  exact ⟨n, rfl⟩
theorem ty_cons {c : CT} {cs : List CT} {ds : List DV} (h : Typeds (c :: cs) ds) : ∃ d r, ds = d :: r ∧ Typed c d ∧ Typeds cs r := by
  rw [Typeds] at h
  exact h
theorem ty_nil {ds : List DV} (h : Typeds [] ds) : ds = [] := by
  rw [Typeds] at h
  exact h
theorem t_i {k : IntKind} {d : DV} (h : Typed (.i k) d) : ∃ n, d = .int k n := by
  rw [Typed] at h
  obtain ⟨n, rfl, _⟩ := h
  exact ⟨n, rfl⟩
theorem t_s {d : DV} (h : Typed .s d) : ∃ n, d = .str n := by
  rw [Typed] at h
  obtain ⟨n, rfl, _⟩ := h
  exact ⟨n, rfl⟩
theorem t_b {d : DV} (h : Typed .b d) : ∃ n, d = .bool n := by
  rw [Typed] at h
  obtain ⟨n, rfl⟩ := h
  exact ⟨n, rfl⟩
theorem t_sl {l : List CT} {d : DV} (h : Typed (.sl l) d) : ∃ xs, d = .sl (ctLen l) xs := by
  rw [Typed] at h
  obtain ⟨xs, rfl, _⟩ := h
  exact ⟨xs, rfl⟩
theorem t_w {k : IntKind} {d : DV} (h : Typed (.i k) d) : ∃ n, d = .int k n ∧ k.min ≤ n ∧ n ≤ k.max := by
  rw [Typed] at h
  obtain ⟨n, rfl, h⟩ := h
  simp only [Lit.wf, Bool.and_eq_true, decide_eq_true_eq] at h
  exact ⟨n, rfl, h.1, h.2⟩
theorem t_wi {d : DV} (h : Typed (.i .i64) d) : ∃ n, d = .int .i64 n ∧ -9223372036854775808 ≤ n ∧ n < 9223372036854775808 := by
  obtain ⟨n, rfl, h1, h2⟩ := t_w h
  refine ⟨n, rfl, ?_, ?_⟩
  · exact h1
  · have : (IntKind.i64.max : Int) = 9223372036854775807 := by decide
    omega
theorem ty_wi {d : DV} (h : TypedA (.c (.i .i64)) d) : ∃ n, d = .int .i64 n ∧ -9223372036854775808 ≤ n ∧ n < 9223372036854775808 := t_wi h
theorem ty_bool {d : DV} (h : TypedA (.c .b) d) : ∃ n, d = .bool n := t_b h
theorem all2_4 {R : AT → DV → Prop} {a b c d : AT} {ds : List DV} (h : All2 R [a, b, c, d] ds) : ∃ e f g i, ds = [e, f, g, i] ∧ R a e ∧ R b f ∧ R c g ∧ R d i := by
  obtain ⟨e, r, rfl, h1, f, r', rfl, h2, g, r'', rfl, h3, i, r3, rfl, h4, h5⟩ := h
  cases h5
  exact ⟨e, f, g, i, rfl, h1, h2, h3, h4⟩
def ctStp : List CT := [.b, .i .i64]
theorem tyStp (ds : List DV) (h : Typeds ctStp ds) : ∃ t, ds = encStp t := by
  unfold ctStp at h
  obtain ⟨_, _, rfl, h0, g0⟩ := ty_cons h
  obtain ⟨a0, rfl⟩ := t_b h0
  obtain ⟨_, _, rfl, h1, g1⟩ := ty_cons g0
  obtain ⟨a1, rfl⟩ := t_i h1
  obtain rfl := ty_nil g1
  exact ⟨⟨a0, a1⟩, rfl⟩
theorem ty_Stp {d : DV} (h : TypedA (.ag ctStp) d) : ∃ t, d = .agg (encStp t) := by
  obtain ⟨ds, rfl, h1⟩ := h
  obtain ⟨v, rfl⟩ := tyStp ds h1
  exact ⟨v, rfl⟩
theorem ty_Stps {d : DV} (h : TypedA (.c (.sl ctStp)) d) : ∃ es : List Stp, d = .sl 2 (es.map encStp) := by
  obtain ⟨es, rfl, _⟩ := typed_list tyStp h
  exact ⟨es, rfl⟩
end Go.Proofs.Ytcjlkbffmggekaa.E
