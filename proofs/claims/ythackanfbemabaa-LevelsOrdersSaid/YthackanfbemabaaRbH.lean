/-
  RbH: walks of functions of the program at data level.
-/
import Derived.Test.YthackanfbemabaaProg
import Derived.Test.YthackanfbemabaaEngZ
import Derived.Test.YthackanfbemabaaRbG
import Derived.KernelRfl
set_option linter.unusedVariables false
set_option linter.unusedSimpArgs false
namespace Go.Proofs.Ythackanfbemabaa.E
open Go
set_option maxHeartbeats 4000000
set_option maxRecDepth 100000
set_option linter.unusedSimpArgs false
set_option linter.unusedVariables false
attribute [local congr] c_wp c_ops c_op c_opS c_run c_runS c_dt c_seq c_blk c_loop c_S c_put c_bind c_mv c_pick c_nt c_ng c_bin c_binI c_binS c_beq c_B c_eqa c_hd c_cells c_blkK c_box c_vec c_take c_ld c_ldF c_cellsK c_st c_fld c_fldv c_ix c_ixp c_ixv c_ixs c_sub c_subs c_len c_lens c_src c_dst c_ow c_app c_ext c_mm c_conv c_str c_isn c_fill c_rows c_boxo c_frz c_frzO c_frzA c_frzV c_spec c_specO c_fz c_fn c_gv c_cond c_res1 c_resL c_ret c_qret c_ite c_unr c_nx c_bk c_cut c_is
attribute [local irreducible] dwp

theorem great_le {v : Lv} (h : greatB v = false) : v.users.length ≤ 60 ∧ v.kinds.length ≤ 60 := by
  simp [greatB] at h
  omega
def wideB (e : Ev) : Bool := decide (110 < e.lv.users.length ∨ 20 < e.lv.kinds.length)
def ac6 : AC := (.seq (.ops [⟨(some 4), none, (.mv (.c (.bool false)))⟩]) (.seq (.seq (.ops [⟨(some 5), none, (.mv (.t 0))⟩, ⟨(some 6), none, (.call false 18 [(.t 5), (.c (.int .i64 3))])⟩, ⟨(some 7), none, (.bin .neq (.t 6) (.c (.int .i64 0)))⟩]) (.cond (.t 7) (.seq (.ops [⟨(some 4), none, (.mv (.c (.bool false)))⟩]) .ret) .skip)) (.seq (.seq (.ops [⟨(some 8), none, (.mv (.t 0))⟩, ⟨(some 9), none, (.bin .lss (.t 8) (.c (.int .i64 0)))⟩, ⟨(some 10), none, (.mv (.t 9))⟩, ⟨(some 11), (some (10, false)), (.mv (.t 0))⟩, ⟨(some 12), (some (10, false)), (.bin .gtr (.t 11) (.c (.int .i64 3)))⟩, ⟨(some 13), none, (.pick (.t 10) (.c (.bool true)) (.t 12))⟩, ⟨(some 14), none, (.mv (.t 13))⟩, ⟨(some 15), (some (14, false)), (.mv (.t 1))⟩, ⟨(some 16), (some (14, false)), (.call false 18 [(.c (.int .i64 0)), (.t 15)])⟩, ⟨(some 17), (some (14, false)), (.bin .neq (.t 16) (.c (.int .i64 0)))⟩, ⟨(some 18), none, (.pick (.t 14) (.c (.bool true)) (.t 17))⟩]) (.cond (.t 18) (.seq (.ops [⟨(some 19), none, (.call false 14 [])⟩, ⟨(some 4), none, (.mv (.t 19))⟩]) .ret) .skip)) (.seq (.ops [⟨(some 20), none, (.mv (.t 0))⟩, ⟨(some 21), none, (.mv (.t 1))⟩, ⟨(some 22), none, (.call false 18 [(.t 20), (.t 21)])⟩, ⟨(some 23), none, (.bin .eql (.t 22) (.c (.int .i64 0)))⟩, ⟨(some 24), none, (.mv (.t 23))⟩, ⟨(some 25), (some (24, true)), (.call false 14 [])⟩, ⟨(some 26), none, (.pick (.t 24) (.t 25) (.c (.bool false)))⟩, ⟨(some 4), none, (.mv (.t 26))⟩]) .ret))))
theorem tr6 : Try.f6.body.bind (trCode Try.prog) = some (strip ac6) := by kernel_rfl
theorem spec6 (rule now : Int) : Spec Try.prog 6 [.fz (.int .i64 rule), .fz (.int .i64 now)] (.fz (.bool true)) := by
  refine spec_at (n := 25) (ars := [(.t 4)]) (ac := ac6) Try.func6 (by kernel_rfl) (by kernel_rfl) tr6 (by kernel_rfl) ?_
  unfold ac6
  iterate 30 (all_goals (try (first
    | ((with_reducible refine of_kSpec ?_); refine call_fz (spec18 _ _) rfl ?_)
    | ((with_reducible refine of_kSpec ?_); refine call_fz (spec14) rfl ?_)
    | (with_reducible refine ite_in (fun _ => ?_) (fun _ => ?_))
    | (with_reducible refine ⟨fun _ => ?_, fun _ => ?_⟩)
    | (with_reducible refine And.intro ?_ ?_)
    | (with_reducible intro _)
    | (with_reducible exact is_in _)
    | (simp -implicitDefEqProofs only [SD, SF, SL, e_nf, reduceCtorEq, implies_true, ↓reduceIte, Nat.reduceEqDiff, Nat.reduceAdd, Nat.reduceMul, Nat.reduceSub, Nat.reduceLeDiff, Nat.reduceLT, Int.reduceLT, Int.reduceLE, Int.reduceEq, Int.reduceToNat, Int.reduceAdd, Int.reduceSub, Int.reduceNeg, Int.reduceBEq, Int.reduceBNe, Nat.reduceBEq, Int.cast_ofNat_Int, decide_true, decide_false, ne_eq, eq_self_iff_true, beq_eq_false_iff_ne, bne_iff_ne, List.replicate, *]))))
  all_goals (grind [joinR])
def ac7 : AC := (.seq (.ops [⟨(some 4), none, (.mv (.c (.bool false)))⟩]) (.seq (.seq (.ops [⟨(some 5), none, (.mv (.t 1))⟩, ⟨(some 6), none, (.bin .neq (.t 5) (.c (.int .i64 3)))⟩, ⟨(some 7), none, (.mv (.t 6))⟩, ⟨(some 8), (some (7, true)), (.mv (.t 1))⟩, ⟨(some 9), (some (7, true)), (.bin .neq (.t 8) (.c (.int .i64 1)))⟩, ⟨(some 10), none, (.pick (.t 7) (.t 9) (.c (.bool false)))⟩, ⟨(some 11), none, (.mv (.t 10))⟩, ⟨(some 12), (some (11, true)), (.mv (.t 0))⟩, ⟨(some 13), (some (11, true)), (.mv (.t 1))⟩, ⟨(some 14), (some (11, true)), (.call false 18 [(.t 12), (.t 13)])⟩, ⟨(some 15), (some (11, true)), (.bin .eql (.t 14) (.c (.int .i64 0)))⟩, ⟨(some 16), (some (11, true)), (.mv (.t 0))⟩, ⟨(some 17), (some (11, true)), (.bin .eql (.t 16) (.c (.int .i64 1)))⟩, ⟨(some 18), (some (11, true)), (.beq true (.t 15) (.t 17))⟩, ⟨(some 19), none, (.pick (.t 11) (.t 18) (.c (.bool false)))⟩]) (.cond (.t 19) (.seq (.ops [⟨(some 4), none, (.mv (.c (.bool false)))⟩]) .ret) .skip)) (.seq (.ops [⟨(some 20), none, (.mv (.t 0))⟩, ⟨(some 21), none, (.mv (.t 1))⟩, ⟨(some 22), none, (.call false 20 [(.t 20), (.t 21)])⟩, ⟨(some 23), none, (.bin .neq (.t 22) (.c (.int .i64 0)))⟩, ⟨(some 24), none, (.mv (.t 23))⟩, ⟨(some 25), (some (24, false)), (.mv (.t 0))⟩, ⟨(some 26), (some (24, false)), (.bin .eql (.t 25) (.c (.int .i64 2)))⟩, ⟨(some 27), (some (24, false)), (.mv (.t 26))⟩, ⟨(some 28), (some (27, true)), (.mv (.t 1))⟩, ⟨(some 29), (some (27, true)), (.bin .neq (.t 28) (.c (.int .i64 3)))⟩, ⟨(some 30), (some (24, false)), (.pick (.t 27) (.t 29) (.c (.bool false)))⟩, ⟨(some 31), (some (24, false)), (.mv (.t 30))⟩, ⟨(some 32), (some (31, true)), (.mv (.t 1))⟩, ⟨(some 33), (some (31, true)), (.bin .neq (.t 32) (.c (.int .i64 1)))⟩, ⟨(some 34), (some (24, false)), (.pick (.t 31) (.t 33) (.c (.bool false)))⟩, ⟨(some 35), (some (24, false)), (.mv (.t 34))⟩, ⟨(some 36), (some (35, true)), (.mv (.t 1))⟩, ⟨(some 37), (some (35, true)), (.bin .neq (.t 36) (.c (.int .i64 4)))⟩, ⟨(some 38), (some (24, false)), (.pick (.t 35) (.t 37) (.c (.bool false)))⟩, ⟨(some 39), none, (.pick (.t 24) (.c (.bool true)) (.t 38))⟩, ⟨(some 40), none, (.mv (.t 39))⟩, ⟨(some 41), (some (40, true)), (.call false 14 [])⟩, ⟨(some 42), none, (.pick (.t 40) (.t 41) (.c (.bool false)))⟩, ⟨(some 4), none, (.mv (.t 42))⟩]) .ret)))
theorem tr7 : Try.f7.body.bind (trCode Try.prog) = some (strip ac7) := by kernel_rfl
theorem spec7 (rule now : Int) : Spec Try.prog 7 [.fz (.int .i64 rule), .fz (.int .i64 now)] (.fz (.bool true)) := by
  refine spec_at (n := 41) (ars := [(.t 4)]) (ac := ac7) Try.func7 (by kernel_rfl) (by kernel_rfl) tr7 (by kernel_rfl) ?_
  unfold ac7
  iterate 60 (all_goals (try (first
    | ((with_reducible refine of_kSpec ?_); refine call_fz (spec18 _ _) rfl ?_)
    | ((with_reducible refine of_kSpec ?_); refine call_fz (spec20 _ _) rfl ?_)
    | ((with_reducible refine of_kSpec ?_); refine call_fz (spec14) rfl ?_)
    | (with_reducible refine ite_in (fun _ => ?_) (fun _ => ?_))
    | (with_reducible refine ⟨fun _ => ?_, fun _ => ?_⟩)
    | (with_reducible refine And.intro ?_ ?_)
    | (with_reducible intro _)
    | (with_reducible exact is_in _)
    | (simp -implicitDefEqProofs only [SD, SF, SL, e_nf, reduceCtorEq, implies_true, ↓reduceIte, Nat.reduceEqDiff, Nat.reduceAdd, Nat.reduceMul, Nat.reduceSub, Nat.reduceLeDiff, Nat.reduceLT, Int.reduceLT, Int.reduceLE, Int.reduceEq, Int.reduceToNat, Int.reduceAdd, Int.reduceSub, Int.reduceNeg, Int.reduceBEq, Int.reduceBNe, Nat.reduceBEq, Int.cast_ofNat_Int, decide_true, decide_false, ne_eq, eq_self_iff_true, beq_eq_false_iff_ne, bne_iff_ne, List.replicate, *]))))
  all_goals (grind [joinR, knockR])
def ac8 : AC := (.seq (.ops [⟨(some 3), none, (.box (.t 0))⟩, ⟨(some 6), none, (.mv (.c (.bool false)))⟩]) (.seq (.seq (.ops [⟨(some 7), none, (.ld true 9 (.t 3))⟩, ⟨(some 8), none, (.call false 24 [(.t 7)])⟩]) (.cond (.t 8) (.seq (.ops [⟨(some 9), none, (.call false 25 [])⟩, ⟨(some 6), none, (.mv (.t 9))⟩]) .ret) .skip)) (.seq (.draw (.q false ⟨(some 10), none, (.ld true 9 (.t 3))⟩ (.q false ⟨(some 11), none, (.mv (.t 1))⟩ (.q false ⟨(some 13), none, (.ld true 9 (.t 3))⟩ (.q false ⟨(some 14), none, (.mv (.t 1))⟩ (.op ⟨(some 12), none, (.call false 26 [(.t 10), (.t 11)])⟩ (.op ⟨(some 15), none, (.call false 27 [(.t 13), (.t 14)])⟩ (.q false ⟨(some 16), none, (.bin .eql (.t 12) (.t 15))⟩ (.q false ⟨(some 17), none, (.mv (.t 16))⟩ (.q false ⟨(some 18), (some (17, true)), (.ld true 9 (.t 3))⟩ (.q false ⟨(some 19), (some (17, true)), (.mv (.t 2))⟩ (.q false ⟨(some 21), (some (17, true)), (.ld true 9 (.t 3))⟩ (.q false ⟨(some 22), (some (17, true)), (.mv (.t 2))⟩ (.op ⟨(some 20), (some (17, true)), (.call false 28 [(.t 18), (.t 19)])⟩ (.op ⟨(some 23), (some (17, true)), (.call false 29 [(.t 21), (.t 22)])⟩ (.q false ⟨(some 24), (some (17, true)), (.bin .eql (.t 20) (.t 23))⟩ (.q false ⟨(some 25), none, (.pick (.t 17) (.t 24) (.c (.bool false)))⟩ (.q false ⟨(some 26), none, (.mv (.t 25))⟩ (.q false ⟨(some 27), (some (26, true)), (.mv (.t 1))⟩ (.q false ⟨(some 29), (some (26, true)), (.mv (.t 1))⟩ (.op ⟨(some 28), (some (26, true)), (.call false 31 [(.t 27)])⟩ (.op ⟨(some 30), (some (26, true)), (.call false 32 [(.t 29)])⟩ (.op ⟨(some 31), (some (26, true)), (.call false 30 [(.t 28), (.t 30)])⟩ (.q false ⟨(some 32), none, (.pick (.t 26) (.t 31) (.c (.bool false)))⟩ (.q false ⟨(some 33), none, (.mv (.t 32))⟩ (.op ⟨(some 34), (some (33, true)), (.call false 25 [])⟩ (.q false ⟨(some 35), none, (.pick (.t 33) (.t 34) (.c (.bool false)))⟩ (.q false ⟨(some 6), none, (.mv (.t 35))⟩ .nil)))))))))))))))))))))))))))) .ret)))
theorem tr8 : Try.f8.body.bind (trCode Try.prog) = some (strip ac8) := by kernel_rfl
theorem spec8 (v : Lv) (u : List UInt8) (k : Int) : Spec Try.prog 8 [.fz (.agg (encLv v)), .fz (.str u), .fz (.int .i64 k)] (.fz (.bool true)) := by
  refine spec_at (n := 33) (ars := [(.t 6)]) (ac := ac8) Try.func8 (by kernel_rfl) (by kernel_rfl) tr8 (by kernel_rfl) ?_
  unfold ac8
  iterate 60 (all_goals (try (first
    | ((with_reducible refine of_kSpec ?_); refine call_fz (spec24 v) rfl ?_)
    | ((with_reducible refine of_kSpec ?_); refine call_fz (spec25) rfl ?_)
    | ((with_reducible refine of_kSpec ?_); refine call_fz (spec26 v u) rfl ?_)
    | ((with_reducible refine of_kSpec ?_); refine call_fz (spec27 v u) rfl ?_)
    | ((with_reducible refine of_kSpec ?_); refine call_fz (spec28 v k) rfl ?_)
    | ((with_reducible refine of_kSpec ?_); refine call_fz (spec29 v k) rfl ?_)
    | ((with_reducible refine of_kSpec ?_); refine call_fz (spec31 u) rfl ?_)
    | ((with_reducible refine of_kSpec ?_); refine call_fz (spec32 u) rfl ?_)
    | ((with_reducible refine of_kSpec ?_); refine call_fz (spec30 (dflt u) (dflt u)) rfl ?_)
    | (with_reducible refine ite_in (fun _ => ?_) (fun _ => ?_))
    | (with_reducible refine ⟨fun _ => ?_, fun _ => ?_⟩)
    | (with_reducible refine And.intro ?_ ?_)
    | (with_reducible intro _)
    | (with_reducible exact is_in _)
    | (simp -implicitDefEqProofs only [SD, SF, SL, e_nf, reduceCtorEq, implies_true, ↓reduceIte, Nat.reduceEqDiff, Nat.reduceAdd, Nat.reduceMul, Nat.reduceSub, Nat.reduceLeDiff, Nat.reduceLT, Int.reduceLT, Int.reduceLE, Int.reduceEq, Int.reduceToNat, Int.reduceAdd, Int.reduceSub, Int.reduceNeg, Int.reduceBEq, Int.reduceBNe, Nat.reduceBEq, Int.cast_ofNat_Int, decide_true, decide_false, ne_eq, eq_self_iff_true, beq_eq_false_iff_ne, bne_iff_ne, List.replicate, encLv, *]))))
  all_goals (simp_all)
def ac10 : AC := (.seq (.ops [⟨(some 3), none, (.box (.t 0))⟩, ⟨(some 4), none, (.box (.t 1))⟩, ⟨(some 6), none, (.mv (.c (.bool false)))⟩]) (.seq (.seq (.ops [⟨(some 7), none, (.ld true 9 (.t 3))⟩, ⟨(some 8), none, (.call false 24 [(.t 7)])⟩, ⟨(some 9), none, (.mv (.t 8))⟩, ⟨(some 10), (some (9, false)), (.ld true 9 (.t 4))⟩, ⟨(some 11), (some (9, false)), (.call false 24 [(.t 10)])⟩, ⟨(some 12), none, (.pick (.t 9) (.c (.bool true)) (.t 11))⟩]) (.cond (.t 12) (.seq (.ops [⟨(some 13), none, (.call false 25 [])⟩, ⟨(some 6), none, (.mv (.t 13))⟩]) .ret) .skip)) (.seq (.draw (.q false ⟨(some 14), none, (.ld true 9 (.t 3))⟩ (.q false ⟨(some 15), none, (.ld true 9 (.t 4))⟩ (.q false ⟨(some 16), none, (.mv (.t 2))⟩ (.q false ⟨(some 18), none, (.ld true 9 (.t 3))⟩ (.q false ⟨(some 19), none, (.ld true 9 (.t 4))⟩ (.q false ⟨(some 20), none, (.mv (.t 2))⟩ (.op ⟨(some 17), none, (.call false 35 [(.t 14), (.t 15), (.t 16)])⟩ (.op ⟨(some 21), none, (.call false 36 [(.t 18), (.t 19), (.t 20)])⟩ (.q false ⟨(some 22), none, (.bin .eql (.t 17) (.t 21))⟩ (.q false ⟨(some 23), none, (.mv (.t 22))⟩ (.op ⟨(some 24), (some (23, true)), (.call false 25 [])⟩ (.q false ⟨(some 25), none, (.pick (.t 23) (.t 24) (.c (.bool false)))⟩ (.q false ⟨(some 6), none, (.mv (.t 25))⟩ .nil)))))))))))))) .ret)))
theorem tr10 : Try.f10.body.bind (trCode Try.prog) = some (strip ac10) := by kernel_rfl
theorem spec10 (v w : Lv) (u : List UInt8) : Spec Try.prog 10 [.fz (.agg (encLv v)), .fz (.agg (encLv w)), .fz (.str u)] (.fz (.bool true)) := by
  refine spec_at (n := 23) (ars := [(.t 6)]) (ac := ac10) Try.func10 (by kernel_rfl) (by kernel_rfl) tr10 (by kernel_rfl) ?_
  unfold ac10
  iterate 40 (all_goals (try (first
    | ((with_reducible refine of_kSpec ?_); refine call_fz (spec24 v) rfl ?_)
    | ((with_reducible refine of_kSpec ?_); refine call_fz (spec24 w) rfl ?_)
    | ((with_reducible refine of_kSpec ?_); refine call_fz (spec25) rfl ?_)
    | ((with_reducible refine of_kSpec ?_); refine call_fz (spec35 v w u) rfl ?_)
    | ((with_reducible refine of_kSpec ?_)
       refine call_fz (spec36 v w u ?_) rfl ?_
       · have := @great_le v
         have := @great_le w
         have : greatB v = false := by simp_all
         have : greatB w = false := by simp_all
         constructor <;> grind)
    | (with_reducible refine ite_in (fun _ => ?_) (fun _ => ?_))
    | (with_reducible refine ⟨fun _ => ?_, fun _ => ?_⟩)
    | (with_reducible refine And.intro ?_ ?_)
    | (with_reducible intro _)
    | (with_reducible exact is_in _)
    | (simp -implicitDefEqProofs only [SD, SF, SL, e_nf, reduceCtorEq, implies_true, ↓reduceIte, Nat.reduceEqDiff, Nat.reduceAdd, Nat.reduceMul, Nat.reduceSub, Nat.reduceLeDiff, Nat.reduceLT, Int.reduceLT, Int.reduceLE, Int.reduceEq, Int.reduceToNat, Int.reduceAdd, Int.reduceSub, Int.reduceNeg, Int.reduceBEq, Int.reduceBNe, Nat.reduceBEq, Int.cast_ofNat_Int, decide_true, decide_false, ne_eq, eq_self_iff_true, beq_eq_false_iff_ne, bne_iff_ne, List.replicate, encLv, *]))))
  all_goals (simp_all)
def ac11 : AC := (.seq (.ops [⟨(some 2), none, (.box (.t 0))⟩, ⟨(some 3), none, (.box (.t 1))⟩, ⟨(some 4), none, (.mv (.c (.bool false)))⟩]) (.seq (.seq (.ops [⟨(some 5), none, (.ld true 9 (.t 2))⟩, ⟨(some 6), none, (.call false 24 [(.t 5)])⟩, ⟨(some 7), none, (.mv (.t 6))⟩, ⟨(some 8), (some (7, false)), (.ld true 9 (.t 3))⟩, ⟨(some 9), (some (7, false)), (.call false 24 [(.t 8)])⟩, ⟨(some 10), none, (.pick (.t 7) (.c (.bool true)) (.t 9))⟩]) (.cond (.t 10) (.seq (.ops [⟨(some 11), none, (.call false 25 [])⟩, ⟨(some 4), none, (.mv (.t 11))⟩]) .ret) .skip)) (.seq (.draw (.q false ⟨(some 12), none, (.ld true 9 (.t 2))⟩ (.q false ⟨(some 13), none, (.ld true 9 (.t 3))⟩ (.q false ⟨(some 15), none, (.ld true 9 (.t 2))⟩ (.q false ⟨(some 16), none, (.ld true 9 (.t 3))⟩ (.op ⟨(some 14), none, (.call false 37 [(.t 12), (.t 13)])⟩ (.op ⟨(some 17), none, (.call false 30 [(.t 15), (.t 16)])⟩ (.q false ⟨(some 18), none, (.beq false (.t 14) (.t 17))⟩ (.q false ⟨(some 19), none, (.mv (.t 18))⟩ (.q false ⟨(some 20), (some (19, true)), (.ld true 9 (.t 2))⟩ (.q false ⟨(some 21), (some (19, true)), (.ld true 9 (.t 2))⟩ (.op ⟨(some 22), (some (19, true)), (.call false 37 [(.t 20), (.t 21)])⟩ (.q false ⟨(some 23), none, (.pick (.t 19) (.t 22) (.c (.bool false)))⟩ (.q false ⟨(some 24), none, (.mv (.t 23))⟩ (.op ⟨(some 25), (some (24, true)), (.call false 25 [])⟩ (.q false ⟨(some 26), none, (.pick (.t 24) (.t 25) (.c (.bool false)))⟩ (.q false ⟨(some 4), none, (.mv (.t 26))⟩ .nil))))))))))))))))) .ret)))
theorem tr11 : Try.f11.body.bind (trCode Try.prog) = some (strip ac11) := by kernel_rfl
theorem spec11 (v w : Lv) : Spec Try.prog 11 [.fz (.agg (encLv v)), .fz (.agg (encLv w))] (.fz (.bool true)) := by
  refine spec_at (n := 25) (ars := [(.t 4)]) (ac := ac11) Try.func11 (by kernel_rfl) (by kernel_rfl) tr11 (by kernel_rfl) ?_
  unfold ac11
  iterate 60 (all_goals (try (first
    | ((with_reducible refine of_kSpec ?_); refine call_fz (spec24 v) rfl ?_)
    | ((with_reducible refine of_kSpec ?_); refine call_fz (spec24 w) rfl ?_)
    | ((with_reducible refine of_kSpec ?_); refine call_fz (spec25) rfl ?_)
    | ((with_reducible refine of_kSpec ?_); refine call_fz (spec37 v w) rfl ?_)
    | ((with_reducible refine of_kSpec ?_); refine call_fz (spec30 v w) rfl ?_)
    | ((with_reducible refine of_kSpec ?_); refine call_fz (spec37 v v) rfl ?_)
    | (with_reducible refine ite_in (fun _ => ?_) (fun _ => ?_))
    | (with_reducible refine ⟨fun _ => ?_, fun _ => ?_⟩)
    | (with_reducible refine And.intro ?_ ?_)
    | (with_reducible intro _)
    | (with_reducible exact is_in _)
    | (simp -implicitDefEqProofs only [SD, SF, SL, e_nf, reduceCtorEq, implies_true, ↓reduceIte, Nat.reduceEqDiff, Nat.reduceAdd, Nat.reduceMul, Nat.reduceSub, Nat.reduceLeDiff, Nat.reduceLT, Int.reduceLT, Int.reduceLE, Int.reduceEq, Int.reduceToNat, Int.reduceAdd, Int.reduceSub, Int.reduceNeg, Int.reduceBEq, Int.reduceBNe, Nat.reduceBEq, Int.cast_ofNat_Int, decide_true, decide_false, ne_eq, eq_self_iff_true, beq_eq_false_iff_ne, bne_iff_ne, List.replicate, encLv, *]))))
  all_goals (simp_all)
def ac9 : AC := (.seq (.ops [⟨(some 2), none, (.mv (.c (.bool false)))⟩]) (.seq (.seq (.ops [⟨(some 8), none, (.mv (.t 0))⟩, ⟨(some 9), none, (.len (.t 8))⟩, ⟨(some 10), none, (.bin .gtr (.t 9) (.c (.int .i64 30)))⟩]) (.cond (.t 10) (.seq (.ops [⟨(some 11), none, (.call false 25 [])⟩, ⟨(some 2), none, (.mv (.t 11))⟩]) .ret) .skip)) (.seq (.seq (.ops [⟨(some 3), none, (.mv (.c (.int .i64 0)))⟩]) (.block 0 (.loop (.seq (.seq (.ops [⟨(some 12), none, (.mv (.t 3))⟩, ⟨(some 13), none, (.mv (.t 0))⟩, ⟨(some 14), none, (.len (.t 13))⟩, ⟨(some 15), none, (.bin .lss (.t 12) (.t 14))⟩]) (.cond (.t 15) .skip (.exit 0))) (.seq (.block 1 (.seq (.ops [⟨(some 18), none, (.mv (.t 0))⟩, ⟨(some 19), none, (.mv (.t 3))⟩, ⟨(some 20), none, (.ix 29 (.t 18) (.t 19))⟩, ⟨(some 21), none, (.fld 10 (.t 20))⟩, ⟨(some 22), none, (.fld 7 (.t 21))⟩, ⟨(some 23), none, (.ld true 9 (.t 22))⟩, ⟨(some 24), none, (.call false 24 [(.t 23)])⟩]) (.cond (.t 24) (.seq (.ops [⟨(some 25), none, (.call false 25 [])⟩, ⟨(some 2), none, (.mv (.t 25))⟩]) .ret) .skip))) (.ops [⟨(some 16), none, (.mv (.t 3))⟩, ⟨(some 17), none, (.bin .add (.t 16) (.c (.int .i64 1)))⟩, ⟨(some 3), none, (.mv (.t 17))⟩])))))) (.seq (.ops [⟨(some 27), none, (.mv (.t 0))⟩, ⟨(some 28), none, (.call false 33 [(.t 27)])⟩, ⟨(some 26), none, (.mv (.t 28))⟩, ⟨(some 29), none, (.ext (.t 26) 0)⟩, ⟨(some 30), none, (.ext (.t 26) 1)⟩, ⟨(some 4), none, (.alloc [.e0, .e0, (.int .i64 0), (.int .i64 0), (.int .i64 0), (.int .i64 0), (.int .i64 0), (.int .i64 0), (.int .i64 0)])⟩, ⟨none, none, (.sto 9 (.t 4) (.t 29))⟩, ⟨(some 5), none, (.mv (.t 30))⟩]) (.seq (.ops [⟨(some 32), none, (.mv (.t 0))⟩, ⟨(some 33), none, (.call false 34 [(.t 32)])⟩, ⟨(some 31), none, (.mv (.t 33))⟩, ⟨(some 34), none, (.ext (.t 31) 0)⟩, ⟨(some 35), none, (.ext (.t 31) 1)⟩, ⟨(some 6), none, (.alloc [.e0, .e0, (.int .i64 0), (.int .i64 0), (.int .i64 0), (.int .i64 0), (.int .i64 0), (.int .i64 0), (.int .i64 0)])⟩, ⟨none, none, (.sto 9 (.t 6) (.t 34))⟩, ⟨(some 7), none, (.mv (.t 35))⟩]) (.seq (.ops [⟨(some 36), none, (.ld true 9 (.t 4))⟩, ⟨(some 37), none, (.ld true 9 (.t 6))⟩, ⟨(some 38), none, (.call false 30 [(.t 36), (.t 37)])⟩, ⟨(some 39), none, (.mv (.t 38))⟩, ⟨(some 40), (some (39, true)), (.mv (.t 5))⟩, ⟨(some 41), (some (39, true)), (.mv (.t 7))⟩, ⟨(some 42), (some (39, true)), (.bin .eql (.t 40) (.t 41))⟩, ⟨(some 43), none, (.pick (.t 39) (.t 42) (.c (.bool false)))⟩, ⟨(some 44), none, (.mv (.t 43))⟩, ⟨(some 45), (some (44, true)), (.call false 25 [])⟩, ⟨(some 46), none, (.pick (.t 44) (.t 45) (.c (.bool false)))⟩, ⟨(some 2), none, (.mv (.t 46))⟩]) .ret))))))
theorem tr9 : Try.f9.body.bind (trCode Try.prog) = some (strip ac9) := by kernel_rfl
theorem spec9 (es : List Ev) : Spec Try.prog 9 [.fz (.sl 29 (es.map encEv))] (.fz (.bool true)) := by
  refine spec_at (n := 46) (ars := [(.t 2)]) (ac := ac9) Try.func9 (by kernel_rfl) (by kernel_rfl) tr9 (by kernel_rfl) ?_
  unfold ac9
  iterate 8 (all_goals (try (first
    | ((with_reducible refine of_kSpec ?_); refine call_fz (spec25) rfl ?_)
    | (with_reducible refine ite_in (fun _ => ?_) (fun _ => ?_))
    | (with_reducible refine ⟨fun _ => ?_, fun _ => ?_⟩)
    | (with_reducible refine And.intro ?_ ?_)
    | (with_reducible intro _)
    | (with_reducible exact is_in _)
    | (simp -implicitDefEqProofs only [SD, SF, SL, e_nf, reduceCtorEq, implies_true, ↓reduceIte, Nat.reduceEqDiff, Nat.reduceAdd, Nat.reduceMul, Nat.reduceSub, Nat.reduceLeDiff, Nat.reduceLT, Int.reduceLT, Int.reduceLE, Int.reduceEq, Int.reduceToNat, Int.reduceAdd, Int.reduceSub, Int.reduceNeg, Int.reduceBEq, Int.reduceBNe, Nat.reduceBEq, Int.cast_ofNat_Int, decide_true, decide_false, ne_eq, eq_self_iff_true, beq_eq_false_iff_ne, bne_iff_ne, List.replicate, *]))))
  refine loop_q (X := List Ev × List Ev × Unit) (fun n x => es = x.1 ++ x.2.1 ∧ n = x.2.1.length ∧ (x.1.all (fun e => !greatB e.lv) = true)) (fun x => [(3, .int .i64 x.1.length)]) (fun _ => []) [2, 12, 13, 14, 15, 16, 17, 18, 19, 20, 21, 22, 23, 24, 25] [] (es).length ([], es, ()) ⟨rfl, rfl, by first | rfl | exact all_snoc hI (by simp_all)⟩ ?_ ?_
  · simp -implicitDefEqProofs only [SD, SF, SL, e_nf, reduceCtorEq, implies_true, ↓reduceIte, Nat.reduceEqDiff, Nat.reduceAdd, Nat.reduceMul, Nat.reduceSub, Nat.reduceLeDiff, Nat.reduceLT, Int.reduceLT, Int.reduceLE, Int.reduceEq, Int.reduceToNat, Int.reduceAdd, Int.reduceSub, Int.reduceNeg, Int.reduceBEq, Int.reduceBNe, Nat.reduceBEq, Int.cast_ofNat_Int, decide_true, decide_false, ne_eq, eq_self_iff_true, beq_eq_false_iff_ne, bne_iff_ne, List.replicate, encLv] <;> simp
  · rintro n ⟨pre, rest, a⟩ ⟨he, rfl, hI⟩
    dsimp only at he hI
    cases rest with
    | nil =>
      obtain rfl : es = pre := by simpa using he
      clear he
      have hlt : ¬ (((es).length : Int) < ((es).length : Int)) := Int.lt_irrefl _
      iterate 30 (all_goals (try (first
        | (with_reducible refine ite_in (fun _ => ?_) (fun _ => ?_))
        | (with_reducible refine ⟨fun _ => ?_, fun _ => ?_⟩)
        | (with_reducible refine And.intro ?_ ?_)
        | (with_reducible intro _)
        | (with_reducible exact is_in _)
        | (simp -implicitDefEqProofs only [SD, SF, SL, e_nf, reduceCtorEq, implies_true, ↓reduceIte, Nat.reduceEqDiff, Nat.reduceAdd, Nat.reduceMul, Nat.reduceSub, Nat.reduceLeDiff, Nat.reduceLT, Int.reduceLT, Int.reduceLE, Int.reduceEq, Int.reduceToNat, Int.reduceAdd, Int.reduceSub, Int.reduceNeg, Int.reduceBEq, Int.reduceBNe, Nat.reduceBEq, Int.cast_ofNat_Int, decide_true, decide_false, ne_eq, eq_self_iff_true, beq_eq_false_iff_ne, bne_iff_ne, List.replicate, encLv, *]))))
      have hb : ∀ e ∈ es, e.lv.users.length ≤ 1000 ∧ e.lv.kinds.length ≤ 1000 := by
        intro e he
        have := great_le (v := e.lv) (by simpa using List.all_eq_true.1 hI e he)
        omega
      clear hI
      iterate 40 (all_goals (try (first
        | ((with_reducible refine of_kSpec ?_); refine call_fz (spec33 es hb) rfl ?_)
        | ((with_reducible refine of_kSpec ?_); refine call_fz (spec34 es) rfl ?_)
        | ((with_reducible refine of_kSpec ?_); refine call_fz (spec30 (levelsL es) (levelsL es)) rfl ?_)
        | ((with_reducible refine of_kSpec ?_); refine call_fz (spec25) rfl ?_)
        | (with_reducible refine ite_in (fun _ => ?_) (fun _ => ?_))
        | (with_reducible refine ⟨fun _ => ?_, fun _ => ?_⟩)
        | (with_reducible refine And.intro ?_ ?_)
        | (with_reducible intro _)
        | (with_reducible exact is_in _)
        | (simp -implicitDefEqProofs only [SD, SF, SL, e_nf, reduceCtorEq, implies_true, ↓reduceIte, Nat.reduceEqDiff, Nat.reduceAdd, Nat.reduceMul, Nat.reduceSub, Nat.reduceLeDiff, Nat.reduceLT, Int.reduceLT, Int.reduceLE, Int.reduceEq, Int.reduceToNat, Int.reduceAdd, Int.reduceSub, Int.reduceNeg, Int.reduceBEq, Int.reduceBNe, Nat.reduceBEq, Int.cast_ofNat_Int, decide_true, decide_false, ne_eq, eq_self_iff_true, beq_eq_false_iff_ne, bne_iff_ne, List.replicate, encLv, *]))))
      all_goals (simp_all)
    | cons x rest =>
      have hlt := cut_lt he
      have hx := cutD encEv he
      simp only [encEv] at hx
      simp -implicitDefEqProofs only [SD, SF, SL, e_nf, reduceCtorEq, implies_true, ↓reduceIte, Nat.reduceEqDiff, Nat.reduceAdd, Nat.reduceMul, Nat.reduceSub, Nat.reduceLeDiff, Nat.reduceLT, Int.reduceLT, Int.reduceLE, Int.reduceEq, Int.reduceToNat, Int.reduceAdd, Int.reduceSub, Int.reduceNeg, Int.reduceBEq, Int.reduceBNe, Nat.reduceBEq, Int.cast_ofNat_Int, decide_true, decide_false, ne_eq, eq_self_iff_true, beq_eq_false_iff_ne, bne_iff_ne, List.replicate, encLv, hlt]
      intro hl
      have hw := wrap_len (n := pre.length) (m := (es).length) (cut_lt' he) (by simpa using hl)
      replace he := Hd.mk he
      iterate 30 (all_goals (try (first
        | ((with_reducible refine back_in rest.length [2, 12, 13, 14, 15, 16, 17, 18, 19, 20, 21, 22, 23, 24, 25] [] (pre ++ [x], rest, a) ?_ ⟨?_, ?_, ?_⟩ ?_)
           · simp
           · exact cut_snoc he.out
           · rfl
           · first | rfl | exact all_snoc hI (by simp_all)
           · first | (simp -implicitDefEqProofs only [SD, SF, SL, e_nf, reduceCtorEq, implies_true, ↓reduceIte, Nat.reduceEqDiff, Nat.reduceAdd, Nat.reduceMul, Nat.reduceSub, Nat.reduceLeDiff, Nat.reduceLT, Int.reduceLT, Int.reduceLE, Int.reduceEq, Int.reduceToNat, Int.reduceAdd, Int.reduceSub, Int.reduceNeg, Int.reduceBEq, Int.reduceBNe, Nat.reduceBEq, Int.cast_ofNat_Int, decide_true, decide_false, ne_eq, eq_self_iff_true, beq_eq_false_iff_ne, bne_iff_ne, List.replicate, encLv] <;> simp <;> done) | (simp -implicitDefEqProofs only [SD, SF, SL, e_nf, reduceCtorEq, implies_true, ↓reduceIte, Nat.reduceEqDiff, Nat.reduceAdd, Nat.reduceMul, Nat.reduceSub, Nat.reduceLeDiff, Nat.reduceLT, Int.reduceLT, Int.reduceLE, Int.reduceEq, Int.reduceToNat, Int.reduceAdd, Int.reduceSub, Int.reduceNeg, Int.reduceBEq, Int.reduceBNe, Nat.reduceBEq, Int.cast_ofNat_Int, decide_true, decide_false, ne_eq, eq_self_iff_true, beq_eq_false_iff_ne, bne_iff_ne, List.replicate, encLv, *] <;> simp_all <;> done))
        | ((with_reducible refine of_kSpec ?_); refine call_fz (spec24 x.lv) rfl ?_)
        | ((with_reducible refine of_kSpec ?_); refine call_fz (spec25) rfl ?_)
        | (with_reducible refine ite_in (fun _ => ?_) (fun _ => ?_))
        | (with_reducible refine ⟨fun _ => ?_, fun _ => ?_⟩)
        | (with_reducible refine And.intro ?_ ?_)
        | (with_reducible intro _)
        | (with_reducible exact is_in _)
        | (simp -implicitDefEqProofs only [SD, SF, SL, e_nf, reduceCtorEq, implies_true, ↓reduceIte, Nat.reduceEqDiff, Nat.reduceAdd, Nat.reduceMul, Nat.reduceSub, Nat.reduceLeDiff, Nat.reduceLT, Int.reduceLT, Int.reduceLE, Int.reduceEq, Int.reduceToNat, Int.reduceAdd, Int.reduceSub, Int.reduceNeg, Int.reduceBEq, Int.reduceBNe, Nat.reduceBEq, Int.cast_ofNat_Int, decide_true, decide_false, ne_eq, eq_self_iff_true, beq_eq_false_iff_ne, bne_iff_ne, List.replicate, encLv, *]))))
def ac5 : AC := (.seq (.ops [⟨(some 4), none, (.mv (.c (.bool false)))⟩]) (.seq (.seq (.ops [⟨(some 6), none, (.mv (.t 0))⟩, ⟨(some 7), none, (.len (.t 6))⟩, ⟨(some 8), none, (.bin .gtr (.t 7) (.c (.int .i64 40)))⟩]) (.cond (.t 8) (.seq (.ops [⟨(some 9), none, (.call false 14 [])⟩, ⟨(some 4), none, (.mv (.t 9))⟩]) .ret) .skip)) (.seq (.seq (.ops [⟨(some 5), none, (.mv (.c (.int .i64 0)))⟩]) (.block 0 (.loop (.seq (.seq (.ops [⟨(some 10), none, (.mv (.t 5))⟩, ⟨(some 11), none, (.mv (.t 0))⟩, ⟨(some 12), none, (.len (.t 11))⟩, ⟨(some 13), none, (.bin .lss (.t 10) (.t 12))⟩]) (.cond (.t 13) .skip (.exit 0))) (.seq (.block 1 (.seq (.ops [⟨(some 16), none, (.mv (.t 0))⟩, ⟨(some 17), none, (.mv (.t 5))⟩, ⟨(some 18), none, (.ix 29 (.t 16) (.t 17))⟩, ⟨(some 19), none, (.fld 10 (.t 18))⟩, ⟨(some 20), none, (.fld 7 (.t 19))⟩, ⟨(some 21), none, (.fld 0 (.t 20))⟩, ⟨(some 22), none, (.ld false 1 (.t 21))⟩, ⟨(some 23), none, (.len (.t 22))⟩, ⟨(some 24), none, (.bin .gtr (.t 23) (.c (.int .i64 110)))⟩, ⟨(some 25), none, (.mv (.t 24))⟩, ⟨(some 26), (some (25, false)), (.mv (.t 0))⟩, ⟨(some 27), (some (25, false)), (.mv (.t 5))⟩, ⟨(some 28), (some (25, false)), (.ix 29 (.t 26) (.t 27))⟩, ⟨(some 29), (some (25, false)), (.fld 10 (.t 28))⟩, ⟨(some 30), (some (25, false)), (.fld 7 (.t 29))⟩, ⟨(some 31), (some (25, false)), (.fld 1 (.t 30))⟩, ⟨(some 32), (some (25, false)), (.ld false 1 (.t 31))⟩, ⟨(some 33), (some (25, false)), (.len (.t 32))⟩, ⟨(some 34), (some (25, false)), (.bin .gtr (.t 33) (.c (.int .i64 20)))⟩, ⟨(some 35), none, (.pick (.t 25) (.c (.bool true)) (.t 34))⟩]) (.cond (.t 35) (.seq (.ops [⟨(some 36), none, (.call false 14 [])⟩, ⟨(some 4), none, (.mv (.t 36))⟩]) .ret) .skip))) (.ops [⟨(some 14), none, (.mv (.t 5))⟩, ⟨(some 15), none, (.bin .add (.t 14) (.c (.int .i64 1)))⟩, ⟨(some 5), none, (.mv (.t 15))⟩])))))) (.seq (.ops [⟨(some 37), none, (.mv (.t 0))⟩, ⟨(some 38), none, (.mv (.t 1))⟩, ⟨(some 39), none, (.call false 22 [(.t 37), (.t 38)])⟩, ⟨(some 40), none, (.mv (.t 0))⟩, ⟨(some 41), none, (.mv (.t 1))⟩, ⟨(some 42), none, (.call false 23 [(.t 40), (.t 41)])⟩, ⟨(some 43), none, (.bin .eql (.t 39) (.t 42))⟩, ⟨(some 44), none, (.mv (.t 43))⟩, ⟨(some 45), (some (44, true)), (.call false 14 [])⟩, ⟨(some 46), none, (.pick (.t 44) (.t 45) (.c (.bool false)))⟩, ⟨(some 4), none, (.mv (.t 46))⟩]) .ret))))
theorem tr5 : Try.f5.body.bind (trCode Try.prog) = some (strip ac5) := by kernel_rfl
theorem spec5 (es : List Ev) (u : List UInt8) : Spec Try.prog 5 [.fz (.sl 29 (es.map encEv)), .fz (.str u)] (.fz (.bool true)) := by
  refine spec_at (n := 45) (ars := [(.t 4)]) (ac := ac5) Try.func5 (by kernel_rfl) (by kernel_rfl) tr5 (by kernel_rfl) ?_
  unfold ac5
  iterate 8 (all_goals (try (first
    | ((with_reducible refine of_kSpec ?_); refine call_fz (spec14) rfl ?_)
    | (with_reducible refine ite_in (fun _ => ?_) (fun _ => ?_))
    | (with_reducible refine ⟨fun _ => ?_, fun _ => ?_⟩)
    | (with_reducible refine And.intro ?_ ?_)
    | (with_reducible intro _)
    | (with_reducible exact is_in _)
    | (simp -implicitDefEqProofs only [SD, SF, SL, e_nf, reduceCtorEq, implies_true, ↓reduceIte, Nat.reduceEqDiff, Nat.reduceAdd, Nat.reduceMul, Nat.reduceSub, Nat.reduceLeDiff, Nat.reduceLT, Int.reduceLT, Int.reduceLE, Int.reduceEq, Int.reduceToNat, Int.reduceAdd, Int.reduceSub, Int.reduceNeg, Int.reduceBEq, Int.reduceBNe, Nat.reduceBEq, Int.cast_ofNat_Int, decide_true, decide_false, ne_eq, eq_self_iff_true, beq_eq_false_iff_ne, bne_iff_ne, List.replicate, *]))))
  refine loop_q (X := List Ev × List Ev × Unit) (fun n x => es = x.1 ++ x.2.1 ∧ n = x.2.1.length ∧ (x.1.all (fun e => !wideB e) = true)) (fun x => [(5, .int .i64 x.1.length)]) (fun _ => []) [4, 10, 11, 12, 13, 14, 15, 16, 17, 18, 19, 20, 21, 22, 23, 24, 25, 26, 27, 28, 29, 30, 31, 32, 33, 34, 35, 36] [] (es).length ([], es, ()) ⟨rfl, rfl, by first | rfl | exact all_snoc hI (by simp_all [wideB] <;> omega)⟩ ?_ ?_
  · simp -implicitDefEqProofs only [SD, SF, SL, e_nf, reduceCtorEq, implies_true, ↓reduceIte, Nat.reduceEqDiff, Nat.reduceAdd, Nat.reduceMul, Nat.reduceSub, Nat.reduceLeDiff, Nat.reduceLT, Int.reduceLT, Int.reduceLE, Int.reduceEq, Int.reduceToNat, Int.reduceAdd, Int.reduceSub, Int.reduceNeg, Int.reduceBEq, Int.reduceBNe, Nat.reduceBEq, Int.cast_ofNat_Int, decide_true, decide_false, ne_eq, eq_self_iff_true, beq_eq_false_iff_ne, bne_iff_ne, List.replicate] <;> simp
  · rintro n ⟨pre, rest, a⟩ ⟨he, rfl, hI⟩
    dsimp only at he hI
    cases rest with
    | nil =>
      obtain rfl : es = pre := by simpa using he
      clear he
      have hlt : ¬ (((es).length : Int) < ((es).length : Int)) := Int.lt_irrefl _
      iterate 30 (all_goals (try (first
        | (with_reducible refine ite_in (fun _ => ?_) (fun _ => ?_))
        | (with_reducible refine ⟨fun _ => ?_, fun _ => ?_⟩)
        | (with_reducible refine And.intro ?_ ?_)
        | (with_reducible intro _)
        | (with_reducible exact is_in _)
        | (simp -implicitDefEqProofs only [SD, SF, SL, e_nf, reduceCtorEq, implies_true, ↓reduceIte, Nat.reduceEqDiff, Nat.reduceAdd, Nat.reduceMul, Nat.reduceSub, Nat.reduceLeDiff, Nat.reduceLT, Int.reduceLT, Int.reduceLE, Int.reduceEq, Int.reduceToNat, Int.reduceAdd, Int.reduceSub, Int.reduceNeg, Int.reduceBEq, Int.reduceBNe, Nat.reduceBEq, Int.cast_ofNat_Int, decide_true, decide_false, ne_eq, eq_self_iff_true, beq_eq_false_iff_ne, bne_iff_ne, List.replicate, *]))))
      have hb : ∀ e ∈ es, e.lv.users.length ≤ 1000 ∧ e.lv.kinds.length ≤ 1000 := by
        intro e he
        have : wideB e = false := by simpa using List.all_eq_true.1 hI e he
        simp [wideB] at this
        omega
      clear hI
      iterate 40 (all_goals (try (first
        | ((with_reducible refine of_kSpec ?_); refine call_fz (spec22 es u hb) rfl ?_)
        | ((with_reducible refine of_kSpec ?_); refine call_fz (spec23 es u) rfl ?_)
        | ((with_reducible refine of_kSpec ?_); refine call_fz (spec14) rfl ?_)
        | (with_reducible refine ite_in (fun _ => ?_) (fun _ => ?_))
        | (with_reducible refine ⟨fun _ => ?_, fun _ => ?_⟩)
        | (with_reducible refine And.intro ?_ ?_)
        | (with_reducible intro _)
        | (with_reducible exact is_in _)
        | (simp -implicitDefEqProofs only [SD, SF, SL, e_nf, reduceCtorEq, implies_true, ↓reduceIte, Nat.reduceEqDiff, Nat.reduceAdd, Nat.reduceMul, Nat.reduceSub, Nat.reduceLeDiff, Nat.reduceLT, Int.reduceLT, Int.reduceLE, Int.reduceEq, Int.reduceToNat, Int.reduceAdd, Int.reduceSub, Int.reduceNeg, Int.reduceBEq, Int.reduceBNe, Nat.reduceBEq, Int.cast_ofNat_Int, decide_true, decide_false, ne_eq, eq_self_iff_true, beq_eq_false_iff_ne, bne_iff_ne, List.replicate, *]))))
      all_goals (simp_all)
    | cons x rest =>
      have hlt := cut_lt he
      have hx := cutD encEv he
      simp only [encEv] at hx
      simp -implicitDefEqProofs only [SD, SF, SL, e_nf, reduceCtorEq, implies_true, ↓reduceIte, Nat.reduceEqDiff, Nat.reduceAdd, Nat.reduceMul, Nat.reduceSub, Nat.reduceLeDiff, Nat.reduceLT, Int.reduceLT, Int.reduceLE, Int.reduceEq, Int.reduceToNat, Int.reduceAdd, Int.reduceSub, Int.reduceNeg, Int.reduceBEq, Int.reduceBNe, Nat.reduceBEq, Int.cast_ofNat_Int, decide_true, decide_false, ne_eq, eq_self_iff_true, beq_eq_false_iff_ne, bne_iff_ne, List.replicate, hlt]
      intro hl
      have hw := wrap_len (n := pre.length) (m := (es).length) (cut_lt' he) (by simpa using hl)
      replace he := Hd.mk he
      iterate 30 (all_goals (try (first
        | ((with_reducible refine back_in rest.length [4, 10, 11, 12, 13, 14, 15, 16, 17, 18, 19, 20, 21, 22, 23, 24, 25, 26, 27, 28, 29, 30, 31, 32, 33, 34, 35, 36] [] (pre ++ [x], rest, a) ?_ ⟨?_, ?_, ?_⟩ ?_)
           · simp
           · exact cut_snoc he.out
           · rfl
           · first | rfl | exact all_snoc hI (by simp_all [wideB] <;> omega)
           · first | (simp -implicitDefEqProofs only [SD, SF, SL, e_nf, reduceCtorEq, implies_true, ↓reduceIte, Nat.reduceEqDiff, Nat.reduceAdd, Nat.reduceMul, Nat.reduceSub, Nat.reduceLeDiff, Nat.reduceLT, Int.reduceLT, Int.reduceLE, Int.reduceEq, Int.reduceToNat, Int.reduceAdd, Int.reduceSub, Int.reduceNeg, Int.reduceBEq, Int.reduceBNe, Nat.reduceBEq, Int.cast_ofNat_Int, decide_true, decide_false, ne_eq, eq_self_iff_true, beq_eq_false_iff_ne, bne_iff_ne, List.replicate] <;> simp <;> done) | (simp -implicitDefEqProofs only [SD, SF, SL, e_nf, reduceCtorEq, implies_true, ↓reduceIte, Nat.reduceEqDiff, Nat.reduceAdd, Nat.reduceMul, Nat.reduceSub, Nat.reduceLeDiff, Nat.reduceLT, Int.reduceLT, Int.reduceLE, Int.reduceEq, Int.reduceToNat, Int.reduceAdd, Int.reduceSub, Int.reduceNeg, Int.reduceBEq, Int.reduceBNe, Nat.reduceBEq, Int.cast_ofNat_Int, decide_true, decide_false, ne_eq, eq_self_iff_true, beq_eq_false_iff_ne, bne_iff_ne, List.replicate, *] <;> simp_all <;> done))
        | ((with_reducible refine of_kSpec ?_); refine call_fz (spec14) rfl ?_)
        | (with_reducible refine ite_in (fun _ => ?_) (fun _ => ?_))
        | (with_reducible refine ⟨fun _ => ?_, fun _ => ?_⟩)
        | (with_reducible refine And.intro ?_ ?_)
        | (with_reducible intro _)
        | (with_reducible exact is_in _)
        | (simp -implicitDefEqProofs only [SD, SF, SL, e_nf, reduceCtorEq, implies_true, ↓reduceIte, Nat.reduceEqDiff, Nat.reduceAdd, Nat.reduceMul, Nat.reduceSub, Nat.reduceLeDiff, Nat.reduceLT, Int.reduceLT, Int.reduceLE, Int.reduceEq, Int.reduceToNat, Int.reduceAdd, Int.reduceSub, Int.reduceNeg, Int.reduceBEq, Int.reduceBNe, Nat.reduceBEq, Int.cast_ofNat_Int, decide_true, decide_false, ne_eq, eq_self_iff_true, beq_eq_false_iff_ne, bne_iff_ne, List.replicate, *]))))

end Go.Proofs.Ythackanfbemabaa.E
