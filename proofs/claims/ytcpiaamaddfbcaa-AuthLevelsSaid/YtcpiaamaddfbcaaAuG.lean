/-
  AuG: walks of functions of the program at data level.
-/
import Derived.Test.YtcpiaamaddfbcaaProg
import Derived.Test.YtcpiaamaddfbcaaEngZ
import Derived.Test.YtcpiaamaddfbcaaAuA
import Derived.KernelRfl
set_option linter.unusedVariables false
set_option linter.unusedSimpArgs false
namespace Go.Proofs.Ytcpiaamaddfbcaa.E
open Go
set_option maxHeartbeats 4000000
set_option maxRecDepth 100000
set_option linter.unusedSimpArgs false
set_option linter.unusedVariables false
attribute [local congr] c_wp c_ops c_op c_opS c_run c_runS c_dt c_seq c_blk c_loop c_S c_put c_bind c_mv c_pick c_nt c_ng c_bin c_binI c_binS c_beq c_B c_eqa c_hd c_cells c_blkK c_box c_vec c_take c_ld c_ldF c_cellsK c_st c_fld c_fldv c_ix c_ixp c_ixv c_ixs c_sub c_subs c_len c_lens c_src c_dst c_ow c_app c_ext c_mm c_conv c_str c_isn c_fill c_rows c_boxo c_frz c_frzO c_frzA c_frzV c_spec c_specO c_opsP c_opP c_runP c_specP c_Z c_qretP c_fz c_fn c_gv c_cond c_res1 c_resL c_ret c_qret c_ite c_unr c_nx c_bk c_cut c_is
attribute [local irreducible] dwp

theorem cutS {s pre : List UInt8} {x : UInt8} {rest : List UInt8} (h : s = pre ++ x :: rest) : s.getD pre.length 0 = x := by
  subst h
  simp [List.getD]
def letterI (n : Int) : Bool := decide ((97 ≤ n ∧ n ≤ 122) ∨ (48 ≤ n ∧ n ≤ 57))
def locI (n : Int) : Bool := decide (n = 95 ∨ n = 46 ∨ n = 45 ∨ n = 61)
def srvI (n : Int) : Bool := decide (n = 46 ∨ n = 45)
def okLc (b : UInt8) : Bool := letterI b.toNat || locI b.toNat
def okSc (b : UInt8) : Bool := letterI b.toNat || srvI b.toNat
def lenB (s : List UInt8) : Bool := decide (1 ≤ s.length ∧ s.length ≤ 32)
def localB (s : List UInt8) : Bool := lenB s && s.all okLc
def serverB (s : List UInt8) : Bool := lenB s && s.all okSc && letterI (s.getD 0 0).toNat && letterI (s.getD (s.length - 1) 0).toNat
def ac84 : AC := (.seq (.ops [⟨(some 2), none, (.mv (.c (.bool false)))⟩]) (.seq (.ops [⟨(some 3), none, (.mv (.t 0))⟩, ⟨(some 4), none, (.bin .geq (.t 3) (.c (.int .u8 97)))⟩, ⟨(some 5), none, (.mv (.t 4))⟩, ⟨(some 6), (some (5, true)), (.mv (.t 0))⟩, ⟨(some 7), (some (5, true)), (.bin .leq (.t 6) (.c (.int .u8 122)))⟩, ⟨(some 8), none, (.pick (.t 5) (.t 7) (.c (.bool false)))⟩, ⟨(some 9), none, (.mv (.t 8))⟩, ⟨(some 10), (some (9, false)), (.mv (.t 0))⟩, ⟨(some 11), (some (9, false)), (.bin .geq (.t 10) (.c (.int .u8 48)))⟩, ⟨(some 12), (some (9, false)), (.mv (.t 11))⟩, ⟨(some 13), (some (12, true)), (.mv (.t 0))⟩, ⟨(some 14), (some (12, true)), (.bin .leq (.t 13) (.c (.int .u8 57)))⟩, ⟨(some 15), (some (9, false)), (.pick (.t 12) (.t 14) (.c (.bool false)))⟩, ⟨(some 16), none, (.pick (.t 9) (.c (.bool true)) (.t 15))⟩, ⟨(some 2), none, (.mv (.t 16))⟩]) .ret))
theorem tr84 : Try.f84.body.bind (trCode Try.prog) = some (strip ac84) := by kernel_rfl
theorem spec84 (n : Int) : Spec Try.prog 84 [.fz (.int .u8 n)] (.fz (.bool (letterI n))) := by
  refine spec_at (n := 16) (ars := [(.t 2)]) (ac := ac84) Try.func84 (by kernel_rfl) (by kernel_rfl) tr84 (by kernel_rfl) ?_
  unfold ac84
  iterate 30 (all_goals (try (first
    | (with_reducible refine ite_in (fun _ => ?_) (fun _ => ?_))
    | (with_reducible refine ⟨fun _ => ?_, fun _ => ?_⟩)
    | (with_reducible refine And.intro ?_ ?_)
    | (with_reducible intro _)
    | (with_reducible exact is_in _)
    | (simp -implicitDefEqProofs only [SD, SF, SL, e_nf, reduceCtorEq, implies_true, ↓reduceIte, Nat.reduceEqDiff, Nat.reduceAdd, Nat.reduceMul, Nat.reduceSub, Nat.reduceLeDiff, Nat.reduceLT, Int.reduceLT, Int.reduceLE, Int.reduceEq, Int.reduceToNat, Int.reduceAdd, Int.reduceSub, Int.reduceNeg, Int.reduceBEq, Int.reduceBNe, Nat.reduceBEq, Int.cast_ofNat_Int, decide_true, decide_false, ne_eq, eq_self_iff_true, beq_eq_false_iff_ne, bne_iff_ne, List.replicate, *]))))
  all_goals (first | (simp_all [letterI]; done) | grind [letterI])
def ac85 : AC := (.seq (.ops [⟨(some 2), none, (.mv (.c (.bool false)))⟩]) (.seq (.ops [⟨(some 3), none, (.mv (.t 0))⟩, ⟨(some 4), none, (.bin .geq (.t 3) (.c (.int .u8 97)))⟩, ⟨(some 5), none, (.mv (.t 4))⟩, ⟨(some 6), (some (5, true)), (.mv (.t 0))⟩, ⟨(some 7), (some (5, true)), (.bin .leq (.t 6) (.c (.int .u8 122)))⟩, ⟨(some 8), none, (.pick (.t 5) (.t 7) (.c (.bool false)))⟩, ⟨(some 9), none, (.mv (.t 8))⟩, ⟨(some 10), (some (9, false)), (.mv (.t 0))⟩, ⟨(some 11), (some (9, false)), (.bin .geq (.t 10) (.c (.int .u8 48)))⟩, ⟨(some 12), (some (9, false)), (.mv (.t 11))⟩, ⟨(some 13), (some (12, true)), (.mv (.t 0))⟩, ⟨(some 14), (some (12, true)), (.bin .leq (.t 13) (.c (.int .u8 57)))⟩, ⟨(some 15), (some (9, false)), (.pick (.t 12) (.t 14) (.c (.bool false)))⟩, ⟨(some 16), none, (.pick (.t 9) (.c (.bool true)) (.t 15))⟩, ⟨(some 2), none, (.mv (.t 16))⟩]) .ret))
theorem tr85 : Try.f85.body.bind (trCode Try.prog) = some (strip ac85) := by kernel_rfl
theorem spec85 (n : Int) : Spec Try.prog 85 [.fz (.int .u8 n)] (.fz (.bool (letterI n))) := by
  refine spec_at (n := 16) (ars := [(.t 2)]) (ac := ac85) Try.func85 (by kernel_rfl) (by kernel_rfl) tr85 (by kernel_rfl) ?_
  unfold ac85
  iterate 30 (all_goals (try (first
    | (with_reducible refine ite_in (fun _ => ?_) (fun _ => ?_))
    | (with_reducible refine ⟨fun _ => ?_, fun _ => ?_⟩)
    | (with_reducible refine And.intro ?_ ?_)
    | (with_reducible intro _)
    | (with_reducible exact is_in _)
    | (simp -implicitDefEqProofs only [SD, SF, SL, e_nf, reduceCtorEq, implies_true, ↓reduceIte, Nat.reduceEqDiff, Nat.reduceAdd, Nat.reduceMul, Nat.reduceSub, Nat.reduceLeDiff, Nat.reduceLT, Int.reduceLT, Int.reduceLE, Int.reduceEq, Int.reduceToNat, Int.reduceAdd, Int.reduceSub, Int.reduceNeg, Int.reduceBEq, Int.reduceBNe, Nat.reduceBEq, Int.cast_ofNat_Int, decide_true, decide_false, ne_eq, eq_self_iff_true, beq_eq_false_iff_ne, bne_iff_ne, List.replicate, *]))))
  all_goals (first | (simp_all [letterI]; done) | grind [letterI])
def ac82 : AC := (.seq (.ops [⟨(some 2), none, (.mv (.c (.bool false)))⟩]) (.seq (.ops [⟨(some 3), none, (.mv (.t 0))⟩, ⟨(some 4), none, (.bin .eql (.t 3) (.c (.int .u8 95)))⟩, ⟨(some 5), none, (.mv (.t 4))⟩, ⟨(some 6), (some (5, false)), (.mv (.t 0))⟩, ⟨(some 7), (some (5, false)), (.bin .eql (.t 6) (.c (.int .u8 46)))⟩, ⟨(some 8), none, (.pick (.t 5) (.c (.bool true)) (.t 7))⟩, ⟨(some 9), none, (.mv (.t 8))⟩, ⟨(some 10), (some (9, false)), (.mv (.t 0))⟩, ⟨(some 11), (some (9, false)), (.bin .eql (.t 10) (.c (.int .u8 45)))⟩, ⟨(some 12), none, (.pick (.t 9) (.c (.bool true)) (.t 11))⟩, ⟨(some 13), none, (.mv (.t 12))⟩, ⟨(some 14), (some (13, false)), (.mv (.t 0))⟩, ⟨(some 15), (some (13, false)), (.bin .eql (.t 14) (.c (.int .u8 61)))⟩, ⟨(some 16), none, (.pick (.t 13) (.c (.bool true)) (.t 15))⟩, ⟨(some 2), none, (.mv (.t 16))⟩]) .ret))
theorem tr82 : Try.f82.body.bind (trCode Try.prog) = some (strip ac82) := by kernel_rfl
theorem spec82 (n : Int) : Spec Try.prog 82 [.fz (.int .u8 n)] (.fz (.bool (locI n))) := by
  refine spec_at (n := 16) (ars := [(.t 2)]) (ac := ac82) Try.func82 (by kernel_rfl) (by kernel_rfl) tr82 (by kernel_rfl) ?_
  unfold ac82
  iterate 30 (all_goals (try (first
    | (with_reducible refine ite_in (fun _ => ?_) (fun _ => ?_))
    | (with_reducible refine ⟨fun _ => ?_, fun _ => ?_⟩)
    | (with_reducible refine And.intro ?_ ?_)
    | (with_reducible intro _)
    | (with_reducible exact is_in _)
    | (simp -implicitDefEqProofs only [SD, SF, SL, e_nf, reduceCtorEq, implies_true, ↓reduceIte, Nat.reduceEqDiff, Nat.reduceAdd, Nat.reduceMul, Nat.reduceSub, Nat.reduceLeDiff, Nat.reduceLT, Int.reduceLT, Int.reduceLE, Int.reduceEq, Int.reduceToNat, Int.reduceAdd, Int.reduceSub, Int.reduceNeg, Int.reduceBEq, Int.reduceBNe, Nat.reduceBEq, Int.cast_ofNat_Int, decide_true, decide_false, ne_eq, eq_self_iff_true, beq_eq_false_iff_ne, bne_iff_ne, List.replicate, *]))))
  all_goals (first | (simp_all [locI]; done) | grind [locI])
def ac83 : AC := (.seq (.ops [⟨(some 2), none, (.mv (.c (.bool false)))⟩]) (.seq (.ops [⟨(some 3), none, (.mv (.t 0))⟩, ⟨(some 4), none, (.bin .eql (.t 3) (.c (.int .u8 46)))⟩, ⟨(some 5), none, (.mv (.t 4))⟩, ⟨(some 6), (some (5, false)), (.mv (.t 0))⟩, ⟨(some 7), (some (5, false)), (.bin .eql (.t 6) (.c (.int .u8 45)))⟩, ⟨(some 8), none, (.pick (.t 5) (.c (.bool true)) (.t 7))⟩, ⟨(some 2), none, (.mv (.t 8))⟩]) .ret))
theorem tr83 : Try.f83.body.bind (trCode Try.prog) = some (strip ac83) := by kernel_rfl
theorem spec83 (n : Int) : Spec Try.prog 83 [.fz (.int .u8 n)] (.fz (.bool (srvI n))) := by
  refine spec_at (n := 8) (ars := [(.t 2)]) (ac := ac83) Try.func83 (by kernel_rfl) (by kernel_rfl) tr83 (by kernel_rfl) ?_
  unfold ac83
  iterate 30 (all_goals (try (first
    | (with_reducible refine ite_in (fun _ => ?_) (fun _ => ?_))
    | (with_reducible refine ⟨fun _ => ?_, fun _ => ?_⟩)
    | (with_reducible refine And.intro ?_ ?_)
    | (with_reducible intro _)
    | (with_reducible exact is_in _)
    | (simp -implicitDefEqProofs only [SD, SF, SL, e_nf, reduceCtorEq, implies_true, ↓reduceIte, Nat.reduceEqDiff, Nat.reduceAdd, Nat.reduceMul, Nat.reduceSub, Nat.reduceLeDiff, Nat.reduceLT, Int.reduceLT, Int.reduceLE, Int.reduceEq, Int.reduceToNat, Int.reduceAdd, Int.reduceSub, Int.reduceNeg, Int.reduceBEq, Int.reduceBNe, Nat.reduceBEq, Int.cast_ofNat_Int, decide_true, decide_false, ne_eq, eq_self_iff_true, beq_eq_false_iff_ne, bne_iff_ne, List.replicate, *]))))
  all_goals (first | (simp_all [srvI]; done) | grind [srvI])
def ac81 : AC := (.seq (.ops [⟨(some 4), none, (.mv (.c (.bool false)))⟩]) (.seq (.seq (.ops [⟨(some 6), none, (.mv (.t 0))⟩, ⟨(some 7), none, (.lens (.t 6))⟩, ⟨(some 8), none, (.bin .lss (.t 7) (.c (.int .i64 1)))⟩, ⟨(some 9), none, (.mv (.t 8))⟩, ⟨(some 10), (some (9, false)), (.mv (.t 0))⟩, ⟨(some 11), (some (9, false)), (.lens (.t 10))⟩, ⟨(some 12), (some (9, false)), (.bin .gtr (.t 11) (.c (.int .i64 32)))⟩, ⟨(some 13), none, (.pick (.t 9) (.c (.bool true)) (.t 12))⟩]) (.cond (.t 13) (.seq (.ops [⟨(some 4), none, (.mv (.c (.bool false)))⟩]) .ret) .skip)) (.seq (.seq (.ops [⟨(some 14), none, (.mv (.t 0))⟩, ⟨(some 15), none, (.lens (.t 14))⟩, ⟨(some 16), none, (.mv (.c (.int .i64 0)))⟩]) (.block 0 (.loop (.seq (.ops [⟨(some 17), none, (.bin .lss (.t 16) (.t 15))⟩]) (.seq (.cond (.t 17) .skip (.exit 0)) (.seq (.block 1 (.seq (.ops [⟨(some 18), none, (.mv (.t 16))⟩, ⟨(some 5), none, (.mv (.t 18))⟩]) (.seq (.ops [⟨(some 19), none, (.mv (.t 0))⟩, ⟨(some 20), none, (.mv (.t 5))⟩, ⟨(some 21), none, (.ixs (.t 19) (.t 20))⟩, ⟨(some 22), none, (.call false 84 [(.t 21)])⟩, ⟨(some 23), none, (.nt (.t 22))⟩, ⟨(some 24), none, (.mv (.t 23))⟩, ⟨(some 25), (some (24, true)), (.mv (.t 1))⟩, ⟨(some 26), (some (24, true)), (.mv (.t 0))⟩, ⟨(some 27), (some (24, true)), (.mv (.t 5))⟩, ⟨(some 28), (some (24, true)), (.ixs (.t 26) (.t 27))⟩, ⟨(some 29), (some (24, true)), (.callv (.t 25) [(.t 28)])⟩, ⟨(some 30), (some (24, true)), (.nt (.t 29))⟩, ⟨(some 31), none, (.pick (.t 24) (.t 30) (.c (.bool false)))⟩]) (.cond (.t 31) (.seq (.ops [⟨(some 4), none, (.mv (.c (.bool false)))⟩]) .ret) .skip)))) (.ops [⟨(some 32), none, (.bin .add (.t 16) (.c (.int .i64 1)))⟩, ⟨(some 16), none, (.mv (.t 32))⟩]))))))) (.seq (.ops [⟨(some 4), none, (.mv (.c (.bool true)))⟩]) .ret))))
theorem tr81 : Try.f81.body.bind (trCode Try.prog) = some (strip ac81) := by kernel_rfl
theorem specL81 (s : List UInt8) : Spec Try.prog 81 [.fz (.str s), .fz (.fn 82 [])] (.fz (.bool (lenB s && s.all okLc))) := by
  refine spec_at (n := 31) (ars := [(.t 4)]) (ac := ac81) Try.func81 (by kernel_rfl) (by kernel_rfl) tr81 (by kernel_rfl) ?_
  unfold ac81
  iterate 8 (all_goals (try (first
    | (with_reducible refine ite_in (fun _ => ?_) (fun _ => ?_))
    | (with_reducible refine ⟨fun _ => ?_, fun _ => ?_⟩)
    | (with_reducible refine And.intro ?_ ?_)
    | (with_reducible intro _)
    | (with_reducible exact is_in _)
    | ((with_reducible refine eq_in ?_); (grind [lenB]); done)
    | (simp -implicitDefEqProofs only [SD, SF, SL, e_nf, reduceCtorEq, implies_true, ↓reduceIte, Nat.reduceEqDiff, Nat.reduceAdd, Nat.reduceMul, Nat.reduceSub, Nat.reduceLeDiff, Nat.reduceLT, Int.reduceLT, Int.reduceLE, Int.reduceEq, Int.reduceToNat, Int.reduceAdd, Int.reduceSub, Int.reduceNeg, Int.reduceBEq, Int.reduceBNe, Nat.reduceBEq, Int.cast_ofNat_Int, decide_true, decide_false, ne_eq, eq_self_iff_true, beq_eq_false_iff_ne, bne_iff_ne, List.replicate, *]))))
  rename_i hl h1 h32
  refine loop_q (X := List UInt8 × List UInt8 × Unit) (fun n x => s = x.1 ++ x.2.1 ∧ n = x.2.1.length ∧ (x.1.all okLc = true)) (fun x => [(16, .int .i64 x.1.length)]) (fun _ => []) [4, 5, 17, 18, 19, 20, 21, 22, 23, 24, 25, 26, 27, 28, 29, 30, 31, 32] [] (s).length ([], s, ()) ⟨rfl, rfl, by first | rfl | exact all_snoc hI (by simp_all [okLc])⟩ ?_ ?_
  · simp -implicitDefEqProofs only [SD, SF, SL, e_nf, reduceCtorEq, implies_true, ↓reduceIte, Nat.reduceEqDiff, Nat.reduceAdd, Nat.reduceMul, Nat.reduceSub, Nat.reduceLeDiff, Nat.reduceLT, Int.reduceLT, Int.reduceLE, Int.reduceEq, Int.reduceToNat, Int.reduceAdd, Int.reduceSub, Int.reduceNeg, Int.reduceBEq, Int.reduceBNe, Nat.reduceBEq, Int.cast_ofNat_Int, decide_true, decide_false, ne_eq, eq_self_iff_true, beq_eq_false_iff_ne, bne_iff_ne, List.replicate] <;> simp
  · rintro n ⟨pre, rest, a⟩ ⟨he, rfl, hI⟩
    dsimp only at he hI
    cases rest with
    | nil =>
      obtain rfl : s = pre := by simpa using he
      clear he
      have hlt : ¬ (((s).length : Int) < ((s).length : Int)) := Int.lt_irrefl _
      iterate 30 (all_goals (try (first
        | ((with_reducible refine of_kSpec ?_); refine call_fz (spec84 _) rfl ?_)
        | ((with_reducible refine of_kSpec ?_); refine call_fz (spec82 _) rfl ?_)
        | (with_reducible refine ite_in (fun _ => ?_) (fun _ => ?_))
        | (with_reducible refine ⟨fun _ => ?_, fun _ => ?_⟩)
        | (with_reducible refine And.intro ?_ ?_)
        | (with_reducible intro _)
        | (with_reducible exact is_in _)
        | ((with_reducible refine eq_in ?_); (grind [lenB]); done)
        | (simp -implicitDefEqProofs only [SD, SF, SL, e_nf, reduceCtorEq, implies_true, ↓reduceIte, Nat.reduceEqDiff, Nat.reduceAdd, Nat.reduceMul, Nat.reduceSub, Nat.reduceLeDiff, Nat.reduceLT, Int.reduceLT, Int.reduceLE, Int.reduceEq, Int.reduceToNat, Int.reduceAdd, Int.reduceSub, Int.reduceNeg, Int.reduceBEq, Int.reduceBNe, Nat.reduceBEq, Int.cast_ofNat_Int, decide_true, decide_false, ne_eq, eq_self_iff_true, beq_eq_false_iff_ne, bne_iff_ne, List.replicate, *]))))

    | cons x rest =>
      have hlt := cut_lt he
      have hx := cutS he
      have hw := wrap_len (n := pre.length) (m := (s).length) (cut_lt' he) (by simpa using hl)
      replace he := Hd.mk he
      have hf : okLc x = false → s.all okLc = false := fun h => all_cut he.out h
      simp only [okLc] at hf
      iterate 30 (all_goals (try (first
        | ((with_reducible refine back_in rest.length [4, 5, 17, 18, 19, 20, 21, 22, 23, 24, 25, 26, 27, 28, 29, 30, 31, 32] [] (pre ++ [x], rest, a) ?_ ⟨?_, ?_, ?_⟩ ?_)
           · simp
           · exact cut_snoc he.out
           · rfl
           · first | rfl | exact all_snoc hI (by simp_all [okLc])
           · first | (simp -implicitDefEqProofs only [SD, SF, SL, e_nf, reduceCtorEq, implies_true, ↓reduceIte, Nat.reduceEqDiff, Nat.reduceAdd, Nat.reduceMul, Nat.reduceSub, Nat.reduceLeDiff, Nat.reduceLT, Int.reduceLT, Int.reduceLE, Int.reduceEq, Int.reduceToNat, Int.reduceAdd, Int.reduceSub, Int.reduceNeg, Int.reduceBEq, Int.reduceBNe, Nat.reduceBEq, Int.cast_ofNat_Int, decide_true, decide_false, ne_eq, eq_self_iff_true, beq_eq_false_iff_ne, bne_iff_ne, List.replicate] <;> simp <;> done) | (simp -implicitDefEqProofs only [SD, SF, SL, e_nf, reduceCtorEq, implies_true, ↓reduceIte, Nat.reduceEqDiff, Nat.reduceAdd, Nat.reduceMul, Nat.reduceSub, Nat.reduceLeDiff, Nat.reduceLT, Int.reduceLT, Int.reduceLE, Int.reduceEq, Int.reduceToNat, Int.reduceAdd, Int.reduceSub, Int.reduceNeg, Int.reduceBEq, Int.reduceBNe, Nat.reduceBEq, Int.cast_ofNat_Int, decide_true, decide_false, ne_eq, eq_self_iff_true, beq_eq_false_iff_ne, bne_iff_ne, List.replicate, *] <;> simp_all <;> done))
        | ((with_reducible refine of_kSpec ?_); refine call_fz (spec84 _) rfl ?_)
        | ((with_reducible refine of_kSpec ?_); refine call_fz (spec82 _) rfl ?_)
        | (with_reducible refine ite_in (fun _ => ?_) (fun _ => ?_))
        | (with_reducible refine ⟨fun _ => ?_, fun _ => ?_⟩)
        | (with_reducible refine And.intro ?_ ?_)
        | (with_reducible intro _)
        | (with_reducible exact is_in _)
        | ((with_reducible refine eq_in ?_); (grind [lenB]); done)
        | (simp -implicitDefEqProofs only [SD, SF, SL, e_nf, reduceCtorEq, implies_true, ↓reduceIte, Nat.reduceEqDiff, Nat.reduceAdd, Nat.reduceMul, Nat.reduceSub, Nat.reduceLeDiff, Nat.reduceLT, Int.reduceLT, Int.reduceLE, Int.reduceEq, Int.reduceToNat, Int.reduceAdd, Int.reduceSub, Int.reduceNeg, Int.reduceBEq, Int.reduceBNe, Nat.reduceBEq, Int.cast_ofNat_Int, decide_true, decide_false, ne_eq, eq_self_iff_true, beq_eq_false_iff_ne, bne_iff_ne, List.replicate, *]))))
theorem specS81 (s : List UInt8) : Spec Try.prog 81 [.fz (.str s), .fz (.fn 83 [])] (.fz (.bool (lenB s && s.all okSc))) := by
  refine spec_at (n := 31) (ars := [(.t 4)]) (ac := ac81) Try.func81 (by kernel_rfl) (by kernel_rfl) tr81 (by kernel_rfl) ?_
  unfold ac81
  iterate 8 (all_goals (try (first
    | (with_reducible refine ite_in (fun _ => ?_) (fun _ => ?_))
    | (with_reducible refine ⟨fun _ => ?_, fun _ => ?_⟩)
    | (with_reducible refine And.intro ?_ ?_)
    | (with_reducible intro _)
    | (with_reducible exact is_in _)
    | ((with_reducible refine eq_in ?_); (grind [lenB]); done)
    | (simp -implicitDefEqProofs only [SD, SF, SL, e_nf, reduceCtorEq, implies_true, ↓reduceIte, Nat.reduceEqDiff, Nat.reduceAdd, Nat.reduceMul, Nat.reduceSub, Nat.reduceLeDiff, Nat.reduceLT, Int.reduceLT, Int.reduceLE, Int.reduceEq, Int.reduceToNat, Int.reduceAdd, Int.reduceSub, Int.reduceNeg, Int.reduceBEq, Int.reduceBNe, Nat.reduceBEq, Int.cast_ofNat_Int, decide_true, decide_false, ne_eq, eq_self_iff_true, beq_eq_false_iff_ne, bne_iff_ne, List.replicate, *]))))
  rename_i hl h1 h32
  refine loop_q (X := List UInt8 × List UInt8 × Unit) (fun n x => s = x.1 ++ x.2.1 ∧ n = x.2.1.length ∧ (x.1.all okSc = true)) (fun x => [(16, .int .i64 x.1.length)]) (fun _ => []) [4, 5, 17, 18, 19, 20, 21, 22, 23, 24, 25, 26, 27, 28, 29, 30, 31, 32] [] (s).length ([], s, ()) ⟨rfl, rfl, by first | rfl | exact all_snoc hI (by simp_all [okSc])⟩ ?_ ?_
  · simp -implicitDefEqProofs only [SD, SF, SL, e_nf, reduceCtorEq, implies_true, ↓reduceIte, Nat.reduceEqDiff, Nat.reduceAdd, Nat.reduceMul, Nat.reduceSub, Nat.reduceLeDiff, Nat.reduceLT, Int.reduceLT, Int.reduceLE, Int.reduceEq, Int.reduceToNat, Int.reduceAdd, Int.reduceSub, Int.reduceNeg, Int.reduceBEq, Int.reduceBNe, Nat.reduceBEq, Int.cast_ofNat_Int, decide_true, decide_false, ne_eq, eq_self_iff_true, beq_eq_false_iff_ne, bne_iff_ne, List.replicate] <;> simp
  · rintro n ⟨pre, rest, a⟩ ⟨he, rfl, hI⟩
    dsimp only at he hI
    cases rest with
    | nil =>
      obtain rfl : s = pre := by simpa using he
      clear he
      have hlt : ¬ (((s).length : Int) < ((s).length : Int)) := Int.lt_irrefl _
      iterate 30 (all_goals (try (first
        | ((with_reducible refine of_kSpec ?_); refine call_fz (spec84 _) rfl ?_)
        | ((with_reducible refine of_kSpec ?_); refine call_fz (spec83 _) rfl ?_)
        | (with_reducible refine ite_in (fun _ => ?_) (fun _ => ?_))
        | (with_reducible refine ⟨fun _ => ?_, fun _ => ?_⟩)
        | (with_reducible refine And.intro ?_ ?_)
        | (with_reducible intro _)
        | (with_reducible exact is_in _)
        | ((with_reducible refine eq_in ?_); (grind [lenB]); done)
        | (simp -implicitDefEqProofs only [SD, SF, SL, e_nf, reduceCtorEq, implies_true, ↓reduceIte, Nat.reduceEqDiff, Nat.reduceAdd, Nat.reduceMul, Nat.reduceSub, Nat.reduceLeDiff, Nat.reduceLT, Int.reduceLT, Int.reduceLE, Int.reduceEq, Int.reduceToNat, Int.reduceAdd, Int.reduceSub, Int.reduceNeg, Int.reduceBEq, Int.reduceBNe, Nat.reduceBEq, Int.cast_ofNat_Int, decide_true, decide_false, ne_eq, eq_self_iff_true, beq_eq_false_iff_ne, bne_iff_ne, List.replicate, *]))))

    | cons x rest =>
      have hlt := cut_lt he
      have hx := cutS he
      have hw := wrap_len (n := pre.length) (m := (s).length) (cut_lt' he) (by simpa using hl)
      replace he := Hd.mk he
      have hf : okSc x = false → s.all okSc = false := fun h => all_cut he.out h
      simp only [okSc] at hf
      iterate 30 (all_goals (try (first
        | ((with_reducible refine back_in rest.length [4, 5, 17, 18, 19, 20, 21, 22, 23, 24, 25, 26, 27, 28, 29, 30, 31, 32] [] (pre ++ [x], rest, a) ?_ ⟨?_, ?_, ?_⟩ ?_)
           · simp
           · exact cut_snoc he.out
           · rfl
           · first | rfl | exact all_snoc hI (by simp_all [okSc])
           · first | (simp -implicitDefEqProofs only [SD, SF, SL, e_nf, reduceCtorEq, implies_true, ↓reduceIte, Nat.reduceEqDiff, Nat.reduceAdd, Nat.reduceMul, Nat.reduceSub, Nat.reduceLeDiff, Nat.reduceLT, Int.reduceLT, Int.reduceLE, Int.reduceEq, Int.reduceToNat, Int.reduceAdd, Int.reduceSub, Int.reduceNeg, Int.reduceBEq, Int.reduceBNe, Nat.reduceBEq, Int.cast_ofNat_Int, decide_true, decide_false, ne_eq, eq_self_iff_true, beq_eq_false_iff_ne, bne_iff_ne, List.replicate] <;> simp <;> done) | (simp -implicitDefEqProofs only [SD, SF, SL, e_nf, reduceCtorEq, implies_true, ↓reduceIte, Nat.reduceEqDiff, Nat.reduceAdd, Nat.reduceMul, Nat.reduceSub, Nat.reduceLeDiff, Nat.reduceLT, Int.reduceLT, Int.reduceLE, Int.reduceEq, Int.reduceToNat, Int.reduceAdd, Int.reduceSub, Int.reduceNeg, Int.reduceBEq, Int.reduceBNe, Nat.reduceBEq, Int.cast_ofNat_Int, decide_true, decide_false, ne_eq, eq_self_iff_true, beq_eq_false_iff_ne, bne_iff_ne, List.replicate, *] <;> simp_all <;> done))
        | ((with_reducible refine of_kSpec ?_); refine call_fz (spec84 _) rfl ?_)
        | ((with_reducible refine of_kSpec ?_); refine call_fz (spec83 _) rfl ?_)
        | (with_reducible refine ite_in (fun _ => ?_) (fun _ => ?_))
        | (with_reducible refine ⟨fun _ => ?_, fun _ => ?_⟩)
        | (with_reducible refine And.intro ?_ ?_)
        | (with_reducible intro _)
        | (with_reducible exact is_in _)
        | ((with_reducible refine eq_in ?_); (grind [lenB]); done)
        | (simp -implicitDefEqProofs only [SD, SF, SL, e_nf, reduceCtorEq, implies_true, ↓reduceIte, Nat.reduceEqDiff, Nat.reduceAdd, Nat.reduceMul, Nat.reduceSub, Nat.reduceLeDiff, Nat.reduceLT, Int.reduceLT, Int.reduceLE, Int.reduceEq, Int.reduceToNat, Int.reduceAdd, Int.reduceSub, Int.reduceNeg, Int.reduceBEq, Int.reduceBNe, Nat.reduceBEq, Int.cast_ofNat_Int, decide_true, decide_false, ne_eq, eq_self_iff_true, beq_eq_false_iff_ne, bne_iff_ne, List.replicate, *]))))

end Go.Proofs.Ytcpiaamaddfbcaa.E
