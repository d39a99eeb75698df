/-
  AuG: walks of functions of the program at data level.
-/
import Derived.Test.YtcolebkklojccaaProg
import Derived.Test.YtcolebkklojccaaEngZ
import Derived.Test.YtcolebkklojccaaAuA
import Derived.KernelRfl
import Derived.Shelf.Strings.Search1
set_option linter.unusedVariables false
set_option linter.unusedSimpArgs false
namespace Go.Proofs.Ytcolebkklojccaa.E
open Go
set_option maxHeartbeats 4000000
set_option maxRecDepth 100000
set_option linter.unusedSimpArgs false
set_option linter.unusedVariables false
attribute [local congr] c_wp c_ops c_op c_opS c_run c_runS c_dt c_seq c_blk c_loop c_S c_put c_bind c_mv c_pick c_nt c_ng c_bin c_binI c_binS c_beq c_B c_eqa c_hd c_cells c_blkK c_box c_vec c_mp c_nck c_mks c_appn c_mkm c_mput c_mlk c_mrm c_take c_ld c_ldF c_cellsK c_st c_fld c_fldv c_ix c_ixp c_ixv c_ixs c_sub c_subs c_len c_lens c_src c_dst c_ow c_app c_ext c_mm c_conv c_str c_isn c_fill c_rows c_boxo c_frz c_frzO c_frzA c_frzV c_spec c_specO c_opsP c_opP c_runP c_specP c_Z c_qretP c_fz c_fn c_gv c_cond c_res1 c_resL c_ret c_qret c_ite c_unr c_nx c_bk c_cut c_is
attribute [local irreducible] dwp

theorem cutS {s pre : List UInt8} {x : UInt8} {rest : List UInt8} (h : s = pre ++ x :: rest) : s.getD pre.length 0 = x := by
  subst h
  simp [List.getD]
def letterI (n : Int) : Bool := decide ((97 ≤ n ∧ n ≤ 122) ∨ (48 ≤ n ∧ n ≤ 57))
def locI (n : Int) : Bool := decide (n = 95 ∨ n = 46 ∨ n = 45 ∨ n = 61)
def srvI (n : Int) : Bool := decide (n = 46 ∨ n = 45)
def okLc (b : UInt8) : Bool := letterI b.toNat || locI b.toNat
def okSc (b : UInt8) : Bool := letterI b.toNat || srvI b.toNat
def lenB (s : List UInt8) : Bool := decide (1 ≤ s.length ∧ s.length ≤ 32)
def localB (s : List UInt8) : Bool := lenB s && s.all okLc
def serverB (s : List UInt8) : Bool := lenB s && s.all okSc && letterI (s.getD 0 0).toNat && letterI (s.getD (s.length - 1) 0).toNat
def ac89 : AC := (.seq (.ops [⟨(some 2), none, (.mv (.c (.bool false)))⟩]) (.seq (.ops [⟨(some 3), none, (.mv (.t 0))⟩, ⟨(some 4), none, (.bin .geq (.t 3) (.c (.int .u8 97)))⟩, ⟨(some 5), none, (.mv (.t 4))⟩, ⟨(some 6), (some (5, true)), (.mv (.t 0))⟩, ⟨(some 7), (some (5, true)), (.bin .leq (.t 6) (.c (.int .u8 122)))⟩, ⟨(some 8), none, (.pick (.t 5) (.t 7) (.c (.bool false)))⟩, ⟨(some 9), none, (.mv (.t 8))⟩, ⟨(some 10), (some (9, false)), (.mv (.t 0))⟩, ⟨(some 11), (some (9, false)), (.bin .geq (.t 10) (.c (.int .u8 48)))⟩, ⟨(some 12), (some (9, false)), (.mv (.t 11))⟩, ⟨(some 13), (some (12, true)), (.mv (.t 0))⟩, ⟨(some 14), (some (12, true)), (.bin .leq (.t 13) (.c (.int .u8 57)))⟩, ⟨(some 15), (some (9, false)), (.pick (.t 12) (.t 14) (.c (.bool false)))⟩, ⟨(some 16), none, (.pick (.t 9) (.c (.bool true)) (.t 15))⟩, ⟨(some 2), none, (.mv (.t 16))⟩]) .ret))
theorem tr89 : Try.f89.body.bind (trCode Try.prog) = some (strip ac89) := by kernel_rfl
theorem spec89 (n : Int) : Spec Try.prog 89 [.fz (.int .u8 n)] (.fz (.bool (letterI n))) := by
  refine spec_at (n := 16) (ars := [(.t 2)]) (ac := ac89) Try.func89 (by kernel_rfl) (by kernel_rfl) tr89 (by kernel_rfl) ?_
  unfold ac89
  iterate 30 (all_goals (try (first
    | (with_reducible refine ite_in (fun _ => ?_) (fun _ => ?_))
    | (with_reducible refine ⟨fun _ => ?_, fun _ => ?_⟩)
    | (with_reducible refine And.intro ?_ ?_)
    | (with_reducible intro _)
    | (with_reducible exact is_in _)
    | (simp -implicitDefEqProofs only [SD, SF, SL, e_nf, reduceCtorEq, implies_true, ↓reduceIte, Nat.reduceEqDiff, Nat.reduceAdd, Nat.reduceMul, Nat.reduceSub, Nat.reduceLeDiff, Nat.reduceLT, Int.reduceLT, Int.reduceLE, Int.reduceEq, Int.reduceToNat, Int.reduceAdd, Int.reduceSub, Int.reduceNeg, Int.reduceBEq, Int.reduceBNe, Nat.reduceBEq, Int.cast_ofNat_Int, decide_true, decide_false, ne_eq, eq_self_iff_true, beq_eq_false_iff_ne, bne_iff_ne, List.replicate, *]))))
  all_goals (first | (simp_all [letterI]; done) | grind [letterI])
def ac87 : AC := (.seq (.ops [⟨(some 2), none, (.mv (.c (.bool false)))⟩]) (.seq (.ops [⟨(some 3), none, (.mv (.t 0))⟩, ⟨(some 4), none, (.bin .eql (.t 3) (.c (.int .u8 95)))⟩, ⟨(some 5), none, (.mv (.t 4))⟩, ⟨(some 6), (some (5, false)), (.mv (.t 0))⟩, ⟨(some 7), (some (5, false)), (.bin .eql (.t 6) (.c (.int .u8 46)))⟩, ⟨(some 8), none, (.pick (.t 5) (.c (.bool true)) (.t 7))⟩, ⟨(some 9), none, (.mv (.t 8))⟩, ⟨(some 10), (some (9, false)), (.mv (.t 0))⟩, ⟨(some 11), (some (9, false)), (.bin .eql (.t 10) (.c (.int .u8 45)))⟩, ⟨(some 12), none, (.pick (.t 9) (.c (.bool true)) (.t 11))⟩, ⟨(some 13), none, (.mv (.t 12))⟩, ⟨(some 14), (some (13, false)), (.mv (.t 0))⟩, ⟨(some 15), (some (13, false)), (.bin .eql (.t 14) (.c (.int .u8 61)))⟩, ⟨(some 16), none, (.pick (.t 13) (.c (.bool true)) (.t 15))⟩, ⟨(some 2), none, (.mv (.t 16))⟩]) .ret))
theorem tr87 : Try.f87.body.bind (trCode Try.prog) = some (strip ac87) := by kernel_rfl
theorem spec87 (n : Int) : Spec Try.prog 87 [.fz (.int .u8 n)] (.fz (.bool (locI n))) := by
  refine spec_at (n := 16) (ars := [(.t 2)]) (ac := ac87) Try.func87 (by kernel_rfl) (by kernel_rfl) tr87 (by kernel_rfl) ?_
  unfold ac87
  iterate 30 (all_goals (try (first
    | (with_reducible refine ite_in (fun _ => ?_) (fun _ => ?_))
    | (with_reducible refine ⟨fun _ => ?_, fun _ => ?_⟩)
    | (with_reducible refine And.intro ?_ ?_)
    | (with_reducible intro _)
    | (with_reducible exact is_in _)
    | (simp -implicitDefEqProofs only [SD, SF, SL, e_nf, reduceCtorEq, implies_true, ↓reduceIte, Nat.reduceEqDiff, Nat.reduceAdd, Nat.reduceMul, Nat.reduceSub, Nat.reduceLeDiff, Nat.reduceLT, Int.reduceLT, Int.reduceLE, Int.reduceEq, Int.reduceToNat, Int.reduceAdd, Int.reduceSub, Int.reduceNeg, Int.reduceBEq, Int.reduceBNe, Nat.reduceBEq, Int.cast_ofNat_Int, decide_true, decide_false, ne_eq, eq_self_iff_true, beq_eq_false_iff_ne, bne_iff_ne, List.replicate, *]))))
  all_goals (first | (simp_all [locI]; done) | grind [locI])
def ac88 : AC := (.seq (.ops [⟨(some 2), none, (.mv (.c (.bool false)))⟩]) (.seq (.ops [⟨(some 3), none, (.mv (.t 0))⟩, ⟨(some 4), none, (.bin .eql (.t 3) (.c (.int .u8 46)))⟩, ⟨(some 5), none, (.mv (.t 4))⟩, ⟨(some 6), (some (5, false)), (.mv (.t 0))⟩, ⟨(some 7), (some (5, false)), (.bin .eql (.t 6) (.c (.int .u8 45)))⟩, ⟨(some 8), none, (.pick (.t 5) (.c (.bool true)) (.t 7))⟩, ⟨(some 2), none, (.mv (.t 8))⟩]) .ret))
theorem tr88 : Try.f88.body.bind (trCode Try.prog) = some (strip ac88) := by kernel_rfl
theorem spec88 (n : Int) : Spec Try.prog 88 [.fz (.int .u8 n)] (.fz (.bool (srvI n))) := by
  refine spec_at (n := 8) (ars := [(.t 2)]) (ac := ac88) Try.func88 (by kernel_rfl) (by kernel_rfl) tr88 (by kernel_rfl) ?_
  unfold ac88
  iterate 30 (all_goals (try (first
    | (with_reducible refine ite_in (fun _ => ?_) (fun _ => ?_))
    | (with_reducible refine ⟨fun _ => ?_, fun _ => ?_⟩)
    | (with_reducible refine And.intro ?_ ?_)
    | (with_reducible intro _)
    | (with_reducible exact is_in _)
    | (simp -implicitDefEqProofs only [SD, SF, SL, e_nf, reduceCtorEq, implies_true, ↓reduceIte, Nat.reduceEqDiff, Nat.reduceAdd, Nat.reduceMul, Nat.reduceSub, Nat.reduceLeDiff, Nat.reduceLT, Int.reduceLT, Int.reduceLE, Int.reduceEq, Int.reduceToNat, Int.reduceAdd, Int.reduceSub, Int.reduceNeg, Int.reduceBEq, Int.reduceBNe, Nat.reduceBEq, Int.cast_ofNat_Int, decide_true, decide_false, ne_eq, eq_self_iff_true, beq_eq_false_iff_ne, bne_iff_ne, List.replicate, *]))))
  all_goals (first | (simp_all [srvI]; done) | grind [srvI])
def ac86 : AC := (.seq (.ops [⟨(some 4), none, (.mv (.c (.bool false)))⟩]) (.seq (.seq (.ops [⟨(some 6), none, (.mv (.t 0))⟩, ⟨(some 7), none, (.lens (.t 6))⟩, ⟨(some 8), none, (.bin .lss (.t 7) (.c (.int .i64 1)))⟩, ⟨(some 9), none, (.mv (.t 8))⟩, ⟨(some 10), (some (9, false)), (.mv (.t 0))⟩, ⟨(some 11), (some (9, false)), (.lens (.t 10))⟩, ⟨(some 12), (some (9, false)), (.bin .gtr (.t 11) (.c (.int .i64 32)))⟩, ⟨(some 13), none, (.pick (.t 9) (.c (.bool true)) (.t 12))⟩]) (.cond (.t 13) (.seq (.ops [⟨(some 4), none, (.mv (.c (.bool false)))⟩]) .ret) .skip)) (.seq (.seq (.ops [⟨(some 14), none, (.mv (.t 0))⟩, ⟨(some 15), none, (.lens (.t 14))⟩, ⟨(some 16), none, (.mv (.c (.int .i64 0)))⟩]) (.block 0 (.loop (.seq (.ops [⟨(some 17), none, (.bin .lss (.t 16) (.t 15))⟩]) (.seq (.cond (.t 17) .skip (.exit 0)) (.seq (.block 1 (.seq (.ops [⟨(some 18), none, (.mv (.t 16))⟩, ⟨(some 5), none, (.mv (.t 18))⟩]) (.seq (.ops [⟨(some 19), none, (.mv (.t 0))⟩, ⟨(some 20), none, (.mv (.t 5))⟩, ⟨(some 21), none, (.ixs (.t 19) (.t 20))⟩, ⟨(some 22), none, (.call false 89 [(.t 21)])⟩, ⟨(some 23), none, (.nt (.t 22))⟩, ⟨(some 24), none, (.mv (.t 23))⟩, ⟨(some 25), (some (24, true)), (.mv (.t 1))⟩, ⟨(some 26), (some (24, true)), (.mv (.t 0))⟩, ⟨(some 27), (some (24, true)), (.mv (.t 5))⟩, ⟨(some 28), (some (24, true)), (.ixs (.t 26) (.t 27))⟩, ⟨(some 29), (some (24, true)), (.callv (.t 25) [(.t 28)])⟩, ⟨(some 30), (some (24, true)), (.nt (.t 29))⟩, ⟨(some 31), none, (.pick (.t 24) (.t 30) (.c (.bool false)))⟩]) (.cond (.t 31) (.seq (.ops [⟨(some 4), none, (.mv (.c (.bool false)))⟩]) .ret) .skip)))) (.ops [⟨(some 32), none, (.bin .add (.t 16) (.c (.int .i64 1)))⟩, ⟨(some 16), none, (.mv (.t 32))⟩]))))))) (.seq (.ops [⟨(some 4), none, (.mv (.c (.bool true)))⟩]) .ret))))
theorem tr86 : Try.f86.body.bind (trCode Try.prog) = some (strip ac86) := by kernel_rfl
theorem specL86 (s : List UInt8) : Spec Try.prog 86 [.fz (.str s), .fz (.fn 87 [])] (.fz (.bool (lenB s && s.all okLc))) := by
  refine spec_at (n := 31) (ars := [(.t 4)]) (ac := ac86) Try.func86 (by kernel_rfl) (by kernel_rfl) tr86 (by kernel_rfl) ?_
  unfold ac86
  iterate 8 (all_goals (try (first
    | (with_reducible refine ite_in (fun _ => ?_) (fun _ => ?_))
    | (with_reducible refine ⟨fun _ => ?_, fun _ => ?_⟩)
    | (with_reducible refine And.intro ?_ ?_)
    | (with_reducible intro _)
    | (with_reducible exact is_in _)
    | ((with_reducible refine eq_in ?_); (grind [lenB]); done)
    | (simp -implicitDefEqProofs only [SD, SF, SL, e_nf, reduceCtorEq, implies_true, ↓reduceIte, Nat.reduceEqDiff, Nat.reduceAdd, Nat.reduceMul, Nat.reduceSub, Nat.reduceLeDiff, Nat.reduceLT, Int.reduceLT, Int.reduceLE, Int.reduceEq, Int.reduceToNat, Int.reduceAdd, Int.reduceSub, Int.reduceNeg, Int.reduceBEq, Int.reduceBNe, Nat.reduceBEq, Int.cast_ofNat_Int, decide_true, decide_false, ne_eq, eq_self_iff_true, beq_eq_false_iff_ne, bne_iff_ne, List.replicate, *]))))
  rename_i hl h1 h32
  refine loop_q (X := List UInt8 × List UInt8 × Unit) (fun n x => s = x.1 ++ x.2.1 ∧ n = x.2.1.length ∧ (x.1.all okLc = true)) (fun x => [(16, .int .i64 x.1.length)]) (fun _ => []) [4, 5, 17, 18, 19, 20, 21, 22, 23, 24, 25, 26, 27, 28, 29, 30, 31, 32] []  (s).length ([], s, ()) ⟨rfl, rfl, by first | rfl | exact all_snoc hI (by simp_all [okLc])⟩ ?_ ?_
  · simp -implicitDefEqProofs only [SD, SF, SL, e_nf, reduceCtorEq, implies_true, ↓reduceIte, Nat.reduceEqDiff, Nat.reduceAdd, Nat.reduceMul, Nat.reduceSub, Nat.reduceLeDiff, Nat.reduceLT, Int.reduceLT, Int.reduceLE, Int.reduceEq, Int.reduceToNat, Int.reduceAdd, Int.reduceSub, Int.reduceNeg, Int.reduceBEq, Int.reduceBNe, Nat.reduceBEq, Int.cast_ofNat_Int, decide_true, decide_false, ne_eq, eq_self_iff_true, beq_eq_false_iff_ne, bne_iff_ne, List.replicate] <;> simp
  · rintro n ⟨pre, rest, a⟩ ⟨he, rfl, hI⟩
    dsimp only at he hI
    cases rest with
    | nil =>
      obtain rfl : s = pre := by simpa using he
      clear he
      have hlt : ¬ (((s).length : Int) < ((s).length : Int)) := Int.lt_irrefl _
      iterate 30 (all_goals (try (first
        | ((with_reducible refine of_kSpec ?_); refine call_fz (spec89 _) rfl ?_)
        | ((with_reducible refine of_kSpec ?_); refine call_fz (spec87 _) rfl ?_)
        | (with_reducible refine ite_in (fun _ => ?_) (fun _ => ?_))
        | (with_reducible refine ⟨fun _ => ?_, fun _ => ?_⟩)
        | (with_reducible refine And.intro ?_ ?_)
        | (with_reducible intro _)
        | (with_reducible exact is_in _)
        | ((with_reducible refine eq_in ?_); (grind [lenB]); done)
        | (simp -implicitDefEqProofs only [SD, SF, SL, e_nf, reduceCtorEq, implies_true, ↓reduceIte, Nat.reduceEqDiff, Nat.reduceAdd, Nat.reduceMul, Nat.reduceSub, Nat.reduceLeDiff, Nat.reduceLT, Int.reduceLT, Int.reduceLE, Int.reduceEq, Int.reduceToNat, Int.reduceAdd, Int.reduceSub, Int.reduceNeg, Int.reduceBEq, Int.reduceBNe, Nat.reduceBEq, Int.cast_ofNat_Int, decide_true, decide_false, ne_eq, eq_self_iff_true, beq_eq_false_iff_ne, bne_iff_ne, List.replicate, *]))))

    | cons x rest =>
      have hlt := cut_lt he
      have hx := cutS he
      have hw := wrap_len (n := pre.length) (m := (s).length) (cut_lt' he) (by simpa using hl)
      replace he := Hd.mk he
      have hf : okLc x = false → s.all okLc = false := fun h => all_cut he.out h
      simp only [okLc] at hf
      iterate 30 (all_goals (try (first
        | ((with_reducible refine back_in rest.length [4, 5, 17, 18, 19, 20, 21, 22, 23, 24, 25, 26, 27, 28, 29, 30, 31, 32] [] (pre ++ [x], rest, a) ?_ ⟨?_, ?_, ?_⟩ ?_)
           · simp
           · exact cut_snoc he.out
           · rfl
           · first | rfl | exact all_snoc hI (by simp_all [okLc])
           · first | (simp -implicitDefEqProofs only [SD, SF, SL, e_nf, reduceCtorEq, implies_true, ↓reduceIte, Nat.reduceEqDiff, Nat.reduceAdd, Nat.reduceMul, Nat.reduceSub, Nat.reduceLeDiff, Nat.reduceLT, Int.reduceLT, Int.reduceLE, Int.reduceEq, Int.reduceToNat, Int.reduceAdd, Int.reduceSub, Int.reduceNeg, Int.reduceBEq, Int.reduceBNe, Nat.reduceBEq, Int.cast_ofNat_Int, decide_true, decide_false, ne_eq, eq_self_iff_true, beq_eq_false_iff_ne, bne_iff_ne, List.replicate] <;> simp <;> done) | (simp -implicitDefEqProofs only [SD, SF, SL, e_nf, reduceCtorEq, implies_true, ↓reduceIte, Nat.reduceEqDiff, Nat.reduceAdd, Nat.reduceMul, Nat.reduceSub, Nat.reduceLeDiff, Nat.reduceLT, Int.reduceLT, Int.reduceLE, Int.reduceEq, Int.reduceToNat, Int.reduceAdd, Int.reduceSub, Int.reduceNeg, Int.reduceBEq, Int.reduceBNe, Nat.reduceBEq, Int.cast_ofNat_Int, decide_true, decide_false, ne_eq, eq_self_iff_true, beq_eq_false_iff_ne, bne_iff_ne, List.replicate, *] <;> simp_all <;> done))
        | ((with_reducible refine of_kSpec ?_); refine call_fz (spec89 _) rfl ?_)
        | ((with_reducible refine of_kSpec ?_); refine call_fz (spec87 _) rfl ?_)
        | (with_reducible refine ite_in (fun _ => ?_) (fun _ => ?_))
        | (with_reducible refine ⟨fun _ => ?_, fun _ => ?_⟩)
        | (with_reducible refine And.intro ?_ ?_)
        | (with_reducible intro _)
        | (with_reducible exact is_in _)
        | ((with_reducible refine eq_in ?_); (grind [lenB]); done)
        | (simp -implicitDefEqProofs only [SD, SF, SL, e_nf, reduceCtorEq, implies_true, ↓reduceIte, Nat.reduceEqDiff, Nat.reduceAdd, Nat.reduceMul, Nat.reduceSub, Nat.reduceLeDiff, Nat.reduceLT, Int.reduceLT, Int.reduceLE, Int.reduceEq, Int.reduceToNat, Int.reduceAdd, Int.reduceSub, Int.reduceNeg, Int.reduceBEq, Int.reduceBNe, Nat.reduceBEq, Int.cast_ofNat_Int, decide_true, decide_false, ne_eq, eq_self_iff_true, beq_eq_false_iff_ne, bne_iff_ne, List.replicate, *]))))
theorem specS86 (s : List UInt8) : Spec Try.prog 86 [.fz (.str s), .fz (.fn 88 [])] (.fz (.bool (lenB s && s.all okSc))) := by
  refine spec_at (n := 31) (ars := [(.t 4)]) (ac := ac86) Try.func86 (by kernel_rfl) (by kernel_rfl) tr86 (by kernel_rfl) ?_
  unfold ac86
  iterate 8 (all_goals (try (first
    | (with_reducible refine ite_in (fun _ => ?_) (fun _ => ?_))
    | (with_reducible refine ⟨fun _ => ?_, fun _ => ?_⟩)
    | (with_reducible refine And.intro ?_ ?_)
    | (with_reducible intro _)
    | (with_reducible exact is_in _)
    | ((with_reducible refine eq_in ?_); (grind [lenB]); done)
    | (simp -implicitDefEqProofs only [SD, SF, SL, e_nf, reduceCtorEq, implies_true, ↓reduceIte, Nat.reduceEqDiff, Nat.reduceAdd, Nat.reduceMul, Nat.reduceSub, Nat.reduceLeDiff, Nat.reduceLT, Int.reduceLT, Int.reduceLE, Int.reduceEq, Int.reduceToNat, Int.reduceAdd, Int.reduceSub, Int.reduceNeg, Int.reduceBEq, Int.reduceBNe, Nat.reduceBEq, Int.cast_ofNat_Int, decide_true, decide_false, ne_eq, eq_self_iff_true, beq_eq_false_iff_ne, bne_iff_ne, List.replicate, *]))))
  rename_i hl h1 h32
  refine loop_q (X := List UInt8 × List UInt8 × Unit) (fun n x => s = x.1 ++ x.2.1 ∧ n = x.2.1.length ∧ (x.1.all okSc = true)) (fun x => [(16, .int .i64 x.1.length)]) (fun _ => []) [4, 5, 17, 18, 19, 20, 21, 22, 23, 24, 25, 26, 27, 28, 29, 30, 31, 32] []  (s).length ([], s, ()) ⟨rfl, rfl, by first | rfl | exact all_snoc hI (by simp_all [okSc])⟩ ?_ ?_
  · simp -implicitDefEqProofs only [SD, SF, SL, e_nf, reduceCtorEq, implies_true, ↓reduceIte, Nat.reduceEqDiff, Nat.reduceAdd, Nat.reduceMul, Nat.reduceSub, Nat.reduceLeDiff, Nat.reduceLT, Int.reduceLT, Int.reduceLE, Int.reduceEq, Int.reduceToNat, Int.reduceAdd, Int.reduceSub, Int.reduceNeg, Int.reduceBEq, Int.reduceBNe, Nat.reduceBEq, Int.cast_ofNat_Int, decide_true, decide_false, ne_eq, eq_self_iff_true, beq_eq_false_iff_ne, bne_iff_ne, List.replicate] <;> simp
  · rintro n ⟨pre, rest, a⟩ ⟨he, rfl, hI⟩
    dsimp only at he hI
    cases rest with
    | nil =>
      obtain rfl : s = pre := by simpa using he
      clear he
      have hlt : ¬ (((s).length : Int) < ((s).length : Int)) := Int.lt_irrefl _
      iterate 30 (all_goals (try (first
        | ((with_reducible refine of_kSpec ?_); refine call_fz (spec89 _) rfl ?_)
        | ((with_reducible refine of_kSpec ?_); refine call_fz (spec88 _) rfl ?_)
        | (with_reducible refine ite_in (fun _ => ?_) (fun _ => ?_))
        | (with_reducible refine ⟨fun _ => ?_, fun _ => ?_⟩)
        | (with_reducible refine And.intro ?_ ?_)
        | (with_reducible intro _)
        | (with_reducible exact is_in _)
        | ((with_reducible refine eq_in ?_); (grind [lenB]); done)
        | (simp -implicitDefEqProofs only [SD, SF, SL, e_nf, reduceCtorEq, implies_true, ↓reduceIte, Nat.reduceEqDiff, Nat.reduceAdd, Nat.reduceMul, Nat.reduceSub, Nat.reduceLeDiff, Nat.reduceLT, Int.reduceLT, Int.reduceLE, Int.reduceEq, Int.reduceToNat, Int.reduceAdd, Int.reduceSub, Int.reduceNeg, Int.reduceBEq, Int.reduceBNe, Nat.reduceBEq, Int.cast_ofNat_Int, decide_true, decide_false, ne_eq, eq_self_iff_true, beq_eq_false_iff_ne, bne_iff_ne, List.replicate, *]))))

    | cons x rest =>
      have hlt := cut_lt he
      have hx := cutS he
      have hw := wrap_len (n := pre.length) (m := (s).length) (cut_lt' he) (by simpa using hl)
      replace he := Hd.mk he
      have hf : okSc x = false → s.all okSc = false := fun h => all_cut he.out h
      simp only [okSc] at hf
      iterate 30 (all_goals (try (first
        | ((with_reducible refine back_in rest.length [4, 5, 17, 18, 19, 20, 21, 22, 23, 24, 25, 26, 27, 28, 29, 30, 31, 32] [] (pre ++ [x], rest, a) ?_ ⟨?_, ?_, ?_⟩ ?_)
           · simp
           · exact cut_snoc he.out
           · rfl
           · first | rfl | exact all_snoc hI (by simp_all [okSc])
           · first | (simp -implicitDefEqProofs only [SD, SF, SL, e_nf, reduceCtorEq, implies_true, ↓reduceIte, Nat.reduceEqDiff, Nat.reduceAdd, Nat.reduceMul, Nat.reduceSub, Nat.reduceLeDiff, Nat.reduceLT, Int.reduceLT, Int.reduceLE, Int.reduceEq, Int.reduceToNat, Int.reduceAdd, Int.reduceSub, Int.reduceNeg, Int.reduceBEq, Int.reduceBNe, Nat.reduceBEq, Int.cast_ofNat_Int, decide_true, decide_false, ne_eq, eq_self_iff_true, beq_eq_false_iff_ne, bne_iff_ne, List.replicate] <;> simp <;> done) | (simp -implicitDefEqProofs only [SD, SF, SL, e_nf, reduceCtorEq, implies_true, ↓reduceIte, Nat.reduceEqDiff, Nat.reduceAdd, Nat.reduceMul, Nat.reduceSub, Nat.reduceLeDiff, Nat.reduceLT, Int.reduceLT, Int.reduceLE, Int.reduceEq, Int.reduceToNat, Int.reduceAdd, Int.reduceSub, Int.reduceNeg, Int.reduceBEq, Int.reduceBNe, Nat.reduceBEq, Int.cast_ofNat_Int, decide_true, decide_false, ne_eq, eq_self_iff_true, beq_eq_false_iff_ne, bne_iff_ne, List.replicate, *] <;> simp_all <;> done))
        | ((with_reducible refine of_kSpec ?_); refine call_fz (spec89 _) rfl ?_)
        | ((with_reducible refine of_kSpec ?_); refine call_fz (spec88 _) rfl ?_)
        | (with_reducible refine ite_in (fun _ => ?_) (fun _ => ?_))
        | (with_reducible refine ⟨fun _ => ?_, fun _ => ?_⟩)
        | (with_reducible refine And.intro ?_ ?_)
        | (with_reducible intro _)
        | (with_reducible exact is_in _)
        | ((with_reducible refine eq_in ?_); (grind [lenB]); done)
        | (simp -implicitDefEqProofs only [SD, SF, SL, e_nf, reduceCtorEq, implies_true, ↓reduceIte, Nat.reduceEqDiff, Nat.reduceAdd, Nat.reduceMul, Nat.reduceSub, Nat.reduceLeDiff, Nat.reduceLT, Int.reduceLT, Int.reduceLE, Int.reduceEq, Int.reduceToNat, Int.reduceAdd, Int.reduceSub, Int.reduceNeg, Int.reduceBEq, Int.reduceBNe, Nat.reduceBEq, Int.cast_ofNat_Int, decide_true, decide_false, ne_eq, eq_self_iff_true, beq_eq_false_iff_ne, bne_iff_ne, List.replicate, *]))))

end Go.Proofs.Ytcolebkklojccaa.E

namespace Go.Proofs.Ytcolebkklojccaa.E
open Go
set_option maxHeartbeats 4000000
set_option maxRecDepth 100000
set_option linter.unusedSimpArgs false
set_option linter.unusedVariables false
attribute [local congr] c_wp c_ops c_op c_opS c_run c_runS c_dt c_seq c_blk c_loop c_S c_put c_bind c_mv c_pick c_nt c_ng c_bin c_binI c_binS c_beq c_B c_eqa c_hd c_cells c_blkK c_box c_vec c_mp c_nck c_mks c_appn c_mkm c_mput c_mlk c_mrm c_take c_ld c_ldF c_cellsK c_st c_fld c_fldv c_ix c_ixp c_ixv c_ixs c_sub c_subs c_len c_lens c_src c_dst c_ow c_app c_ext c_mm c_conv c_str c_isn c_fill c_rows c_boxo c_frz c_frzO c_frzA c_frzV c_spec c_specO c_opsP c_opP c_runP c_specP c_Z c_qretP c_fz c_fn c_gv c_cond c_res1 c_resL c_ret c_qret c_ite c_unr c_nx c_bk c_cut c_is
attribute [local irreducible] dwp

def colonN (s : List UInt8) : Nat := (s.takeWhile (fun b => decide (b ≠ 58))).length
theorem tw_all {p : UInt8 → Bool} : ∀ (s : List UInt8), s.all p = true → s.takeWhile p = s
  | [], _ => rfl
  | x :: s, h => by
    simp only [List.all_cons, Bool.and_eq_true] at h
    rw [List.takeWhile_cons, h.1, tw_all s h.2]
    rfl
theorem colon_end (s : List UInt8) (h : s.all (fun b => decide (b ≠ 58)) = true) : colonN s = s.length := by
  unfold colonN
  rw [tw_all s h]
theorem colon_hit {s pre rest : List UInt8} (he : s = pre ++ 58 :: rest) (h : pre.all (fun b => decide (b ≠ 58)) = true) : colonN s = pre.length := by
  subst he
  unfold colonN
  rw [List.takeWhile_append_of_pos (by simpa using h)]
  simp
theorem u8_58 (x : UInt8) : ((x.toNat : Int) = 58) = (x = 58) := by
  apply propext
  constructor
  · intro h
    apply UInt8.toNat_inj.1
    exact_mod_cast h
  · rintro rfl
    rfl
def ac73 : AC := (.seq (.ops [⟨(some 2), none, (.mv (.c (.bool false)))⟩]) (.seq (.ops [⟨(some 3), none, (.mv (.t 0))⟩, ⟨(some 4), none, (.call false 86 [(.t 3), (.c (.fn 87 []))])⟩, ⟨(some 2), none, (.mv (.t 4))⟩]) .ret))
theorem tr73 : Try.f73.body.bind (trCode Try.prog) = some (strip ac73) := by kernel_rfl
theorem spec73 (s : List UInt8) : Spec Try.prog 73 [.fz (.str s)] (.fz (.bool (localB s))) := by
  refine spec_at (n := 4) (ars := [(.t 2)]) (ac := ac73) Try.func73 (by kernel_rfl) (by kernel_rfl) tr73 (by kernel_rfl) ?_
  unfold ac73
  iterate 30 (all_goals (try (first
    | ((with_reducible refine of_kSpec ?_); refine call_fz (specL86 s) rfl ?_)
    | (with_reducible refine ite_in (fun _ => ?_) (fun _ => ?_))
    | (with_reducible refine ⟨fun _ => ?_, fun _ => ?_⟩)
    | (with_reducible refine And.intro ?_ ?_)
    | (with_reducible intro _)
    | (with_reducible exact is_in _)
    | (simp -implicitDefEqProofs only [SD, SF, SL, e_nf, reduceCtorEq, implies_true, ↓reduceIte, Nat.reduceEqDiff, Nat.reduceAdd, Nat.reduceMul, Nat.reduceSub, Nat.reduceLeDiff, Nat.reduceLT, Int.reduceLT, Int.reduceLE, Int.reduceEq, Int.reduceToNat, Int.reduceAdd, Int.reduceSub, Int.reduceNeg, Int.reduceBEq, Int.reduceBNe, Nat.reduceBEq, Int.cast_ofNat_Int, decide_true, decide_false, ne_eq, eq_self_iff_true, beq_eq_false_iff_ne, bne_iff_ne, List.replicate, localB, *]))))
def ac74 : AC := (.seq (.ops [⟨(some 2), none, (.mv (.c (.bool false)))⟩]) (.seq (.ops [⟨(some 3), none, (.mv (.t 0))⟩, ⟨(some 4), none, (.call false 86 [(.t 3), (.c (.fn 88 []))])⟩, ⟨(some 5), none, (.mv (.t 4))⟩, ⟨(some 6), (some (5, true)), (.mv (.t 0))⟩, ⟨(some 7), (some (5, true)), (.ixs (.t 6) (.c (.int .i64 0)))⟩, ⟨(some 8), (some (5, true)), (.call false 89 [(.t 7)])⟩, ⟨(some 9), none, (.pick (.t 5) (.t 8) (.c (.bool false)))⟩, ⟨(some 10), none, (.mv (.t 9))⟩, ⟨(some 11), (some (10, true)), (.mv (.t 0))⟩, ⟨(some 12), (some (10, true)), (.mv (.t 0))⟩, ⟨(some 13), (some (10, true)), (.lens (.t 12))⟩, ⟨(some 14), (some (10, true)), (.bin .sub (.t 13) (.c (.int .i64 1)))⟩, ⟨(some 15), (some (10, true)), (.ixs (.t 11) (.t 14))⟩, ⟨(some 16), (some (10, true)), (.call false 89 [(.t 15)])⟩, ⟨(some 17), none, (.pick (.t 10) (.t 16) (.c (.bool false)))⟩, ⟨(some 2), none, (.mv (.t 17))⟩]) .ret))
theorem tr74 : Try.f74.body.bind (trCode Try.prog) = some (strip ac74) := by kernel_rfl
theorem spec74 (s : List UInt8) : Spec Try.prog 74 [.fz (.str s)] (.fz (.bool (serverB s))) := by
  refine spec_at (n := 17) (ars := [(.t 2)]) (ac := ac74) Try.func74 (by kernel_rfl) (by kernel_rfl) tr74 (by kernel_rfl) ?_
  unfold ac74
  by_cases h : 1 ≤ s.length ∧ s.length ≤ 32
  · have hw : IntKind.i64.wrap ((s.length : Int) - 1) = ((s.length - 1 : Nat) : Int) := by
      rw [wrap_in (by omega) (by omega)]
      omega
    have h0 : (0 : Int) < s.length := by omega
    have h1 : ((s.length - 1 : Nat) : Int) < s.length := by omega
    iterate 30 (all_goals (try (first
      | ((with_reducible refine of_kSpec ?_); refine call_fz (specS86 s) rfl ?_)
      | ((with_reducible refine of_kSpec ?_); refine call_fz (spec89 _) rfl ?_)
      | (with_reducible refine ite_in (fun _ => ?_) (fun _ => ?_))
      | (with_reducible refine ⟨fun _ => ?_, fun _ => ?_⟩)
      | (with_reducible refine And.intro ?_ ?_)
      | (with_reducible intro _)
      | (with_reducible exact is_in _)
      | (simp -implicitDefEqProofs only [SD, SF, SL, e_nf, reduceCtorEq, implies_true, ↓reduceIte, Nat.reduceEqDiff, Nat.reduceAdd, Nat.reduceMul, Nat.reduceSub, Nat.reduceLeDiff, Nat.reduceLT, Int.reduceLT, Int.reduceLE, Int.reduceEq, Int.reduceToNat, Int.reduceAdd, Int.reduceSub, Int.reduceNeg, Int.reduceBEq, Int.reduceBNe, Nat.reduceBEq, Int.cast_ofNat_Int, decide_true, decide_false, ne_eq, eq_self_iff_true, beq_eq_false_iff_ne, bne_iff_ne, List.replicate, *]))))
    all_goals (first | (simp [serverB, *]; done) | grind [serverB])
  · have hb : lenB s = false := by simp only [lenB, decide_eq_false_iff_not]; exact h
    iterate 30 (all_goals (try (first
      | ((with_reducible refine of_kSpec ?_); refine call_fz (specS86 s) rfl ?_)
      | ((with_reducible refine of_kSpec ?_); refine call_fz (spec89 _) rfl ?_)
      | (with_reducible refine ite_in (fun _ => ?_) (fun _ => ?_))
      | (with_reducible refine ⟨fun _ => ?_, fun _ => ?_⟩)
      | (with_reducible refine And.intro ?_ ?_)
      | (with_reducible intro _)
      | (with_reducible exact is_in _)
      | (simp -implicitDefEqProofs only [SD, SF, SL, e_nf, reduceCtorEq, implies_true, ↓reduceIte, Nat.reduceEqDiff, Nat.reduceAdd, Nat.reduceMul, Nat.reduceSub, Nat.reduceLeDiff, Nat.reduceLT, Int.reduceLT, Int.reduceLE, Int.reduceEq, Int.reduceToNat, Int.reduceAdd, Int.reduceSub, Int.reduceNeg, Int.reduceBEq, Int.reduceBNe, Nat.reduceBEq, Int.cast_ofNat_Int, decide_true, decide_false, ne_eq, eq_self_iff_true, beq_eq_false_iff_ne, bne_iff_ne, List.replicate, Bool.false_and, *]))))
    all_goals (simp_all [serverB])


end Go.Proofs.Ytcolebkklojccaa.E

namespace Go.Proofs.Ytcolebkklojccaa.E
open Go
set_option maxHeartbeats 4000000
set_option maxRecDepth 100000
set_option linter.unusedSimpArgs false
set_option linter.unusedVariables false
attribute [local congr] c_wp c_ops c_op c_opS c_run c_runS c_dt c_seq c_blk c_loop c_S c_put c_bind c_mv c_pick c_nt c_ng c_bin c_binI c_binS c_beq c_B c_eqa c_hd c_cells c_blkK c_box c_vec c_mp c_nck c_mks c_appn c_mkm c_mput c_mlk c_mrm c_take c_ld c_ldF c_cellsK c_st c_fld c_fldv c_ix c_ixp c_ixv c_ixs c_sub c_subs c_len c_lens c_src c_dst c_ow c_app c_ext c_mm c_conv c_str c_isn c_fill c_rows c_boxo c_frz c_frzO c_frzA c_frzV c_spec c_specO c_opsP c_opP c_runP c_specP c_Z c_qretP c_fz c_fn c_gv c_cond c_res1 c_resL c_ret c_qret c_ite c_unr c_nx c_bk c_cut c_is
attribute [local irreducible] dwp

def Try.lays217_ren : Go.Shelf.Ren := ⟨fun | 217 => 84 | 266 => 91 | n => n, fun | 9 => 9 | 5 => 5 | 3 => 3 | n => n, fun | n => n⟩
theorem Try.lays217 : Go.Proofs.Lays.n217 Try.prog Try.lays217_ren := {
  mixed := by kernel_rfl
  f217 := Try.func84.trans (congrArg some (by kernel_rfl))
  f266 := Try.func91.trans (congrArg some (by kernel_rfl))
  t3 := Try.underlying3
  a3 := Try.isAgg3
  z3 := Try.sizeOf3
  v3 := Try.zeroValue3
  t5 := Try.underlying5
  a5 := Try.isAgg5
  z5 := Try.sizeOf5
  v5 := Try.zeroValue5
  t9 := Try.underlying9
  a9 := Try.isAgg9
  z9 := Try.sizeOf9
  v9 := Try.zeroValue9 }
theorem spec84 (l : List UInt8) (n : Int) : Spec Try.prog 84 [.fz (.str l), .fz (.int .u8 n)] (.fz (.int .i64 (Lib.indexByte l n.toNat.toUInt8))) := by
  refine ⟨by kernel_rfl, fun F w vs hf hargs _ => ?_⟩
  obtain ⟨v, r, e, h1, h2⟩ := hargs
  obtain ⟨v2, r2, e2, h3, h4⟩ := h2
  have h4 : r2 = [] := h4
  have h1 : RF F w (.str l) v := h1
  have h3 : RF F w (.int .u8 n) v2 := h3
  rw [RF] at h1
  rw [RF] at h3
  obtain ⟨rfl, -⟩ := h1
  subst h3 h4 e2
  obtain rfl : vs = #[.string ⟨l.toArray⟩, .int .u8 n] := by apply Array.ext'; simpa using e
  refine (Any.stringslite_IndexByte Try.lays217 ⟨l.toArray⟩ n w).mono ?_
  rintro e w' ⟨rfl, rfl⟩
  exact ⟨_, F, rfl, ⟨fun _ _ h => h, fun _ _ h => .inl h, hf, Nat.le_refl _, fun _ _ _ => rfl, rfl, rfl, rfl⟩, by show RF _ _ _ _; rw [RF]⟩

end Go.Proofs.Ytcolebkklojccaa.E

namespace Go.Proofs.Ytcolebkklojccaa.E
open Go
set_option maxHeartbeats 4000000
set_option maxRecDepth 100000
set_option linter.unusedSimpArgs false
set_option linter.unusedVariables false
attribute [local congr] c_wp c_ops c_op c_opS c_run c_runS c_dt c_seq c_blk c_loop c_S c_put c_bind c_mv c_pick c_nt c_ng c_bin c_binI c_binS c_beq c_B c_eqa c_hd c_cells c_blkK c_box c_vec c_mp c_nck c_mks c_appn c_mkm c_mput c_mlk c_mrm c_take c_ld c_ldF c_cellsK c_st c_fld c_fldv c_ix c_ixp c_ixv c_ixs c_sub c_subs c_len c_lens c_src c_dst c_ow c_app c_ext c_mm c_conv c_str c_isn c_fill c_rows c_boxo c_frz c_frzO c_frzA c_frzV c_spec c_specO c_opsP c_opP c_runP c_specP c_Z c_qretP c_fz c_fn c_gv c_cond c_res1 c_resL c_ret c_qret c_ite c_unr c_nx c_bk c_cut c_is
attribute [local irreducible] dwp

theorem colon_cons (x : UInt8) (t : List UInt8) : colonN (x :: t) = if x = 58 then 0 else colonN t + 1 := by
  unfold colonN
  rw [List.takeWhile_cons]
  by_cases h : x = 58 <;> simp [h]
theorem colon_le (t : List UInt8) : colonN t ≤ t.length := by
  induction t with
  | nil => simp [colonN]
  | cons x t ih => rw [colon_cons]; split <;> simp <;> omega
def idxC (t : List UInt8) : Int := if colonN t < t.length then colonN t else -1
theorem idxC_eq (t : List UInt8) : Lib.indexByte t 58 = idxC t := by
  induction t with
  | nil => rfl
  | cons x t ih =>
    have := colon_le t
    unfold idxC at *
    unfold Lib.indexByte
    rw [ih, colon_cons]
    by_cases h : x = 58
    · simp [h]
    · have hb : (x == 58) = false := by simpa using h
      rw [hb]
      simp only [h, if_false, List.length_cons]
      by_cases h2 : colonN t < t.length <;> simp [h2] <;> omega
theorem idxC' (t : List UInt8) : Lib.indexByte t (Int.toNat 58).toUInt8 = idxC t := idxC_eq t
theorem mark_at (x : UInt8) : Lib.indexByte [64, 33] ((x.toNat : Int)).toNat.toUInt8 = if x = 64 then 0 else if x = 33 then 1 else -1 := by
  have : ((x.toNat : Int)).toNat.toUInt8 = x := by simp
  rw [this]
  simp only [Lib.indexByte]
  by_cases h : x = 64
  · subst h
    rfl
  · by_cases h2 : x = 33
    · subst h2
      rfl
    · have e1 : ((64 : UInt8) == x) = false := by simpa using fun h' => h h'.symm
      have e2 : ((33 : UInt8) == x) = false := by simpa using fun h' => h2 h'.symm
      simp [e1, e2, h, h2]
def cut1 (t : List UInt8) : List UInt8 := if colonN t < t.length then t.take (colonN t) else t
def cut2 (t : List UInt8) : List UInt8 := if colonN t < t.length then t.drop (colonN t + 1) else []
def cut3 (t : List UInt8) : Bool := decide (colonN t < t.length)
def nameOK (t : List UInt8) : Bool := cut3 t && localB (cut1 t) && serverB (cut2 t)
def markB (s : List UInt8) (mk : Nat) : Bool := match s with
  | [] => false
  | x :: t => decide (x.toNat = mk) && nameOK t
def srvOf (s : List UInt8) : List UInt8 := if (markB s 64 || markB s 33) = true then cut2 (s.drop 1) else []
def ac71 : AC := (.seq (.ops [⟨(some 4), none, (.mv (.c (.int .i64 0)))⟩]) (.seq (.ops [⟨(some 5), none, (.mv (.t 0))⟩, ⟨(some 6), none, (.mv (.t 1))⟩, ⟨(some 7), none, (.call false 84 [(.t 5), (.t 6)])⟩, ⟨(some 4), none, (.mv (.t 7))⟩]) .ret))
theorem tr71 : Try.f71.body.bind (trCode Try.prog) = some (strip ac71) := by kernel_rfl
theorem spec71 (l : List UInt8) (n : Int) : Spec Try.prog 71 [.fz (.str l), .fz (.int .u8 n)] (.fz (.int .i64 (Lib.indexByte l n.toNat.toUInt8))) := by
  refine spec_at (n := 6) (ars := [(.t 4)]) (ac := ac71) Try.func71 (by kernel_rfl) (by kernel_rfl) tr71 (by kernel_rfl) ?_
  unfold ac71
  iterate 30 (all_goals (try (first
    | ((with_reducible refine of_kSpec ?_); refine call_fz (spec84 l n) rfl ?_)
    | (with_reducible refine ite_in (fun _ => ?_) (fun _ => ?_))
    | (with_reducible refine ⟨fun _ => ?_, fun _ => ?_⟩)
    | (with_reducible refine And.intro ?_ ?_)
    | (with_reducible intro _)
    | (with_reducible exact is_in _)
    | (simp -implicitDefEqProofs only [SD, SF, SL, e_nf, reduceCtorEq, implies_true, ↓reduceIte, Nat.reduceEqDiff, Nat.reduceAdd, Nat.reduceMul, Nat.reduceSub, Nat.reduceLeDiff, Nat.reduceLT, Int.reduceLT, Int.reduceLE, Int.reduceEq, Int.reduceToNat, Int.reduceAdd, Int.reduceSub, Int.reduceNeg, Int.reduceBEq, Int.reduceBNe, Nat.reduceBEq, Int.cast_ofNat_Int, decide_true, decide_false, ne_eq, eq_self_iff_true, beq_eq_false_iff_ne, bne_iff_ne, List.replicate, *]))))
def ac92 : AC := (.seq (.ops [⟨(some 4), none, (.mv (.c (.int .i64 0)))⟩]) (.seq (.ops [⟨(some 14), none, (.mv (.t 1))⟩, ⟨(some 15), none, (.lens (.t 14))⟩, ⟨(some 5), none, (.mv (.t 15))⟩]) (.seq (.block 0 (.seq (.ops [⟨(some 17), none, (.mv (.t 5))⟩, ⟨(some 18), none, (.bin .eql (.t 17) (.c (.int .i64 0)))⟩, ⟨(some 19), none, (.mv (.t 18))⟩, ⟨(some 20), (some (19, false)), (.mv (.t 1))⟩, ⟨(some 21), (some (19, false)), (.mv (.t 0))⟩, ⟨(some 22), (some (19, false)), (.bin .eql (.t 20) (.t 21))⟩, ⟨(some 23), none, (.pick (.t 19) (.c (.bool true)) (.t 22))⟩, ⟨(some 16), none, (.mv (.t 23))⟩]) (.cond (.t 16) (.seq (.ops [⟨(some 4), none, (.mv (.c (.int .i64 0)))⟩]) .ret) (.seq (.ops [⟨(some 25), none, (.mv (.t 5))⟩, ⟨(some 26), none, (.bin .eql (.t 25) (.c (.int .i64 1)))⟩, ⟨(some 24), none, (.mv (.t 26))⟩]) (.cond (.t 24) (.seq (.ops [⟨(some 27), none, (.mv (.t 0))⟩, ⟨(some 28), none, (.mv (.t 1))⟩, ⟨(some 29), none, (.ixs (.t 28) (.c (.int .i64 0)))⟩, ⟨(some 30), none, (.call false 84 [(.t 27), (.t 29)])⟩, ⟨(some 4), none, (.mv (.t 30))⟩]) .ret) (.seq (.ops [⟨(some 32), none, (.mv (.t 5))⟩, ⟨(some 33), none, (.mv (.t 0))⟩, ⟨(some 34), none, (.lens (.t 33))⟩, ⟨(some 35), none, (.bin .geq (.t 32) (.t 34))⟩, ⟨(some 31), none, (.mv (.t 35))⟩]) (.cond (.t 31) (.seq (.ops [⟨(some 4), none, (.mv (.c (.int .i64 (-1))))⟩]) .ret) (.seq .bad (.cond (.t 36) (.seq (.ops [⟨(some 45), none, (.mv (.t 0))⟩, ⟨(some 46), none, (.mv (.t 1))⟩, ⟨(some 47), none, (.call false 93 [(.t 45), (.t 46)])⟩, ⟨(some 4), none, (.mv (.t 47))⟩]) .ret) .skip))))))))) (.seq (.ops [⟨(some 48), none, (.mv (.t 1))⟩, ⟨(some 49), none, (.ixs (.t 48) (.c (.int .i64 0)))⟩, ⟨(some 6), none, (.mv (.t 49))⟩]) (.seq (.ops [⟨(some 50), none, (.mv (.t 1))⟩, ⟨(some 51), none, (.ixs (.t 50) (.c (.int .i64 1)))⟩, ⟨(some 7), none, (.mv (.t 51))⟩]) (.seq (.ops [⟨(some 8), none, (.mv (.c (.int .i64 0)))⟩]) (.seq (.ops [⟨(some 52), none, (.mv (.t 0))⟩, ⟨(some 53), none, (.lens (.t 52))⟩, ⟨(some 54), none, (.mv (.t 5))⟩, ⟨(some 55), none, (.bin .sub (.t 53) (.t 54))⟩, ⟨(some 56), none, (.bin .add (.t 55) (.c (.int .i64 1)))⟩, ⟨(some 9), none, (.mv (.t 56))⟩]) (.seq (.ops [⟨(some 10), none, (.mv (.c (.int .i64 0)))⟩]) (.seq (.block 1 (.loop (.seq (.seq (.ops [⟨(some 57), none, (.mv (.t 8))⟩, ⟨(some 58), none, (.mv (.t 9))⟩, ⟨(some 59), none, (.bin .lss (.t 57) (.t 58))⟩]) (.cond (.t 59) .skip (.exit 1))) (.block 2 (.seq (.seq (.ops [⟨(some 60), none, (.mv (.t 0))⟩, ⟨(some 61), none, (.mv (.t 8))⟩, ⟨(some 62), none, (.ixs (.t 60) (.t 61))⟩, ⟨(some 63), none, (.mv (.t 6))⟩, ⟨(some 64), none, (.bin .neq (.t 62) (.t 63))⟩]) (.cond (.t 64) (.seq (.ops [⟨(some 65), none, (.mv (.t 0))⟩, ⟨(some 66), none, (.mv (.t 8))⟩, ⟨(some 67), none, (.bin .add (.t 66) (.c (.int .i64 1)))⟩, ⟨(some 68), none, (.mv (.t 9))⟩, ⟨(some 69), none, (.subs (.t 65) (some (.t 67)) (some (.t 68)))⟩, ⟨(some 70), none, (.mv (.t 6))⟩, ⟨(some 71), none, (.call false 84 [(.t 69), (.t 70)])⟩, ⟨(some 11), none, (.mv (.t 71))⟩]) (.seq (.seq (.ops [⟨(some 72), none, (.mv (.t 11))⟩, ⟨(some 73), none, (.bin .lss (.t 72) (.c (.int .i64 0)))⟩]) (.cond (.t 73) (.seq (.ops [⟨(some 4), none, (.mv (.c (.int .i64 (-1))))⟩]) .ret) .skip)) (.ops [⟨(some 74), none, (.mv (.t 8))⟩, ⟨(some 75), none, (.mv (.t 11))⟩, ⟨(some 76), none, (.bin .add (.t 75) (.c (.int .i64 1)))⟩, ⟨(some 77), none, (.bin .add (.t 74) (.t 76))⟩, ⟨(some 8), none, (.mv (.t 77))⟩]))) .skip)) (.seq (.seq (.ops [⟨(some 78), none, (.mv (.t 0))⟩, ⟨(some 79), none, (.mv (.t 8))⟩, ⟨(some 80), none, (.bin .add (.t 79) (.c (.int .i64 1)))⟩, ⟨(some 81), none, (.ixs (.t 78) (.t 80))⟩, ⟨(some 82), none, (.mv (.t 7))⟩, ⟨(some 83), none, (.bin .eql (.t 81) (.t 82))⟩, ⟨(some 84), none, (.mv (.t 83))⟩, ⟨(some 85), (some (84, true)), (.mv (.t 0))⟩, ⟨(some 86), (some (84, true)), (.mv (.t 8))⟩, ⟨(some 87), (some (84, true)), (.mv (.t 8))⟩, ⟨(some 88), (some (84, true)), (.mv (.t 5))⟩, ⟨(some 89), (some (84, true)), (.bin .add (.t 87) (.t 88))⟩, ⟨(some 90), (some (84, true)), (.subs (.t 85) (some (.t 86)) (some (.t 89)))⟩, ⟨(some 91), (some (84, true)), (.mv (.t 1))⟩, ⟨(some 92), (some (84, true)), (.bin .eql (.t 90) (.t 91))⟩, ⟨(some 93), none, (.pick (.t 84) (.t 92) (.c (.bool false)))⟩]) (.cond (.t 93) (.seq (.ops [⟨(some 94), none, (.mv (.t 8))⟩, ⟨(some 4), none, (.mv (.t 94))⟩]) .ret) .skip)) (.seq (.ops [⟨(some 95), none, (.mv (.t 8))⟩, ⟨(some 96), none, (.bin .add (.t 95) (.c (.int .i64 1)))⟩, ⟨(some 8), none, (.mv (.t 96))⟩]) (.seq (.ops [⟨(some 97), none, (.mv (.t 10))⟩, ⟨(some 98), none, (.bin .add (.t 97) (.c (.int .i64 1)))⟩, ⟨(some 10), none, (.mv (.t 98))⟩]) (.seq .bad (.cond (.t 107) (.seq (.ops [⟨(some 108), none, (.mv (.t 0))⟩, ⟨(some 109), none, (.mv (.t 8))⟩, ⟨(some 110), none, (.subs (.t 108) (some (.t 109)) none)⟩, ⟨(some 111), none, (.mv (.t 1))⟩, ⟨(some 112), none, (.call false 93 [(.t 110), (.t 111)])⟩, ⟨(some 12), none, (.mv (.t 112))⟩]) (.seq (.seq (.ops [⟨(some 113), none, (.mv (.t 12))⟩, ⟨(some 114), none, (.bin .geq (.t 113) (.c (.int .i64 0)))⟩]) (.cond (.t 114) (.seq (.ops [⟨(some 115), none, (.mv (.t 12))⟩, ⟨(some 116), none, (.mv (.t 8))⟩, ⟨(some 117), none, (.bin .add (.t 115) (.t 116))⟩, ⟨(some 4), none, (.mv (.t 117))⟩]) .ret) .skip)) (.seq (.ops [⟨(some 4), none, (.mv (.c (.int .i64 (-1))))⟩]) .ret))) (.seq .bad (.cond (.t 132) (.seq (.ops [⟨(some 133), none, (.mv (.t 0))⟩, ⟨(some 134), none, (.mv (.t 8))⟩, ⟨(some 135), none, (.subs (.t 133) (some (.t 134)) none)⟩, ⟨(some 136), none, (.mv (.t 1))⟩, ⟨(some 137), none, (.call false 95 [(.t 135), (.t 136)])⟩, ⟨(some 13), none, (.mv (.t 137))⟩]) (.seq (.seq (.ops [⟨(some 138), none, (.mv (.t 13))⟩, ⟨(some 139), none, (.bin .lss (.t 138) (.c (.int .i64 0)))⟩]) (.cond (.t 139) (.seq (.ops [⟨(some 4), none, (.mv (.c (.int .i64 (-1))))⟩]) .ret) .skip)) (.seq (.ops [⟨(some 140), none, (.mv (.t 8))⟩, ⟨(some 141), none, (.mv (.t 13))⟩, ⟨(some 142), none, (.bin .add (.t 140) (.t 141))⟩, ⟨(some 4), none, (.mv (.t 142))⟩]) .ret))) .skip)))))))))))) (.seq (.ops [⟨(some 4), none, (.mv (.c (.int .i64 (-1))))⟩]) .ret))))))))))
theorem tr92 : Try.f92.body.bind (trCode Try.prog) = some (strip ac92) := by kernel_rfl
theorem spec92 (s : List UInt8) : Spec Try.prog 92 [.fz (.str s), .fz (.str [58])] (.fz (.int .i64 (idxC s))) := by
  refine spec_at (n := 141) (ars := [(.t 4)]) (ac := ac92) Try.func92 (by kernel_rfl) (by kernel_rfl) tr92 (by kernel_rfl) ?_
  unfold ac92
  iterate 30 (all_goals (try (first
    | ((with_reducible refine of_kSpec ?_); refine call_fz (spec84 s 58) rfl ?_)
    | (with_reducible refine ite_in (fun _ => ?_) (fun _ => ?_))
    | (with_reducible refine ⟨fun _ => ?_, fun _ => ?_⟩)
    | (with_reducible refine And.intro ?_ ?_)
    | (with_reducible intro _)
    | (with_reducible exact is_in _)
    | (simp -implicitDefEqProofs only [SD, SF, SL, e_nf, reduceCtorEq, implies_true, ↓reduceIte, Nat.reduceEqDiff, Nat.reduceAdd, Nat.reduceMul, Nat.reduceSub, Nat.reduceLeDiff, Nat.reduceLT, Int.reduceLT, Int.reduceLE, Int.reduceEq, Int.reduceToNat, Int.reduceAdd, Int.reduceSub, Int.reduceNeg, Int.reduceBEq, Int.reduceBNe, Nat.reduceBEq, Int.cast_ofNat_Int, decide_true, decide_false, ne_eq, eq_self_iff_true, beq_eq_false_iff_ne, bne_iff_ne, List.replicate, idxC', *]))))
  all_goals (first | exact idxC_eq s | (subst_vars; rfl) | (subst_vars; decide))
def ac85 : AC := (.seq (.ops [⟨(some 4), none, (.mv (.c (.str [])))⟩, ⟨(some 5), none, (.mv (.c (.str [])))⟩, ⟨(some 6), none, (.mv (.c (.bool false)))⟩]) (.seq (.seq (.ops [⟨(some 8), none, (.mv (.t 0))⟩, ⟨(some 9), none, (.mv (.t 1))⟩, ⟨(some 10), none, (.call false 92 [(.t 8), (.t 9)])⟩, ⟨(some 7), none, (.mv (.t 10))⟩]) (.seq (.ops [⟨(some 11), none, (.mv (.t 7))⟩, ⟨(some 12), none, (.bin .geq (.t 11) (.c (.int .i64 0)))⟩]) (.cond (.t 12) (.seq (.draw (.q true ⟨(some 13), none, (.mv (.t 0))⟩ (.q true ⟨(some 14), none, (.mv (.t 7))⟩ (.q true ⟨(some 16), none, (.mv (.t 0))⟩ (.q true ⟨(some 17), none, (.mv (.t 7))⟩ (.q true ⟨(some 18), none, (.mv (.t 1))⟩ (.alt (.op ⟨(some 15), none, (.subs (.t 13) none (some (.t 14)))⟩ (.q true ⟨(some 4), none, (.mv (.t 15))⟩ (.op ⟨(some 19), none, (.lens (.t 18))⟩ (.q false ⟨(some 20), none, (.bin .add (.t 17) (.t 19))⟩ (.op ⟨(some 21), none, (.subs (.t 16) (some (.t 20)) none)⟩ (.q false ⟨(some 5), none, (.mv (.t 21))⟩ (.q false ⟨(some 6), none, (.mv (.c (.bool true)))⟩ .nil))))))) (.op ⟨(some 19), none, (.lens (.t 18))⟩ (.q true ⟨(some 20), none, (.bin .add (.t 17) (.t 19))⟩ (.alt (.op ⟨(some 15), none, (.subs (.t 13) none (some (.t 14)))⟩ (.q true ⟨(some 4), none, (.mv (.t 15))⟩ (.op ⟨(some 21), none, (.subs (.t 16) (some (.t 20)) none)⟩ (.q false ⟨(some 5), none, (.mv (.t 21))⟩ (.q false ⟨(some 6), none, (.mv (.c (.bool true)))⟩ .nil))))) (.op ⟨(some 21), none, (.subs (.t 16) (some (.t 20)) none)⟩ (.op ⟨(some 15), none, (.subs (.t 13) none (some (.t 14)))⟩ (.q false ⟨(some 4), none, (.mv (.t 15))⟩ (.q false ⟨(some 5), none, (.mv (.t 21))⟩ (.q false ⟨(some 6), none, (.mv (.c (.bool true)))⟩ .nil))))))))))))))) .ret) .skip))) (.seq (.ops [⟨(some 22), none, (.mv (.t 0))⟩, ⟨(some 4), none, (.mv (.t 22))⟩, ⟨(some 5), none, (.mv (.c (.str [])))⟩, ⟨(some 6), none, (.mv (.c (.bool false)))⟩]) .ret)))
theorem tr85 : Try.f85.body.bind (trCode Try.prog) = some (strip ac85) := by kernel_rfl
theorem spec85 (s : List UInt8) (hb : s.length ≤ 100000) : Spec Try.prog 85 [.fz (.str s), .fz (.str [58])] (.fz (.tup [.str (cut1 s), .str (cut2 s), .bool (cut3 s)])) := by
  refine spec_at (n := 21) (ars := [(.t 4), (.t 5), (.t 6)]) (ac := ac85) Try.func85 (by kernel_rfl) (by kernel_rfl) tr85 (by kernel_rfl) ?_
  unfold ac85
  by_cases h : colonN s < s.length
  · have hi : idxC s = colonN s := by simp [idxC, h]
    have hw : IntKind.i64.wrap ((colonN s : Int) + 1) = ((colonN s + 1 : Nat) : Int) := by
      rw [wrap_in (by omega) (by omega)]
      omega
    have h0 : colonN s ≤ s.length := by omega
    have h1 : colonN s + 1 ≤ s.length := by omega
    iterate 30 (all_goals (try (first
      | ((with_reducible refine of_kSpec ?_); refine call_fz (spec92 s) rfl ?_)
      | (with_reducible refine ite_in (fun _ => ?_) (fun _ => ?_))
      | (with_reducible refine ⟨fun _ => ?_, fun _ => ?_⟩)
      | (with_reducible refine And.intro ?_ ?_)
      | (with_reducible intro _)
      | (with_reducible exact is_in _)
      | (simp -implicitDefEqProofs only [SD, SF, SL, e_nf, reduceCtorEq, implies_true, ↓reduceIte, Nat.reduceEqDiff, Nat.reduceAdd, Nat.reduceMul, Nat.reduceSub, Nat.reduceLeDiff, Nat.reduceLT, Int.reduceLT, Int.reduceLE, Int.reduceEq, Int.reduceToNat, Int.reduceAdd, Int.reduceSub, Int.reduceNeg, Int.reduceBEq, Int.reduceBNe, Nat.reduceBEq, Int.cast_ofNat_Int, decide_true, decide_false, ne_eq, eq_self_iff_true, beq_eq_false_iff_ne, bne_iff_ne, List.replicate, *]))))
    all_goals (simp [cut1, cut2, cut3, h, List.take_length])
  · have hi : idxC s = -1 := by simp [idxC, h]
    iterate 30 (all_goals (try (first
      | ((with_reducible refine of_kSpec ?_); refine call_fz (spec92 s) rfl ?_)
      | (with_reducible refine ite_in (fun _ => ?_) (fun _ => ?_))
      | (with_reducible refine ⟨fun _ => ?_, fun _ => ?_⟩)
      | (with_reducible refine And.intro ?_ ?_)
      | (with_reducible intro _)
      | (with_reducible exact is_in _)
      | (simp -implicitDefEqProofs only [SD, SF, SL, e_nf, reduceCtorEq, implies_true, ↓reduceIte, Nat.reduceEqDiff, Nat.reduceAdd, Nat.reduceMul, Nat.reduceSub, Nat.reduceLeDiff, Nat.reduceLT, Int.reduceLT, Int.reduceLE, Int.reduceEq, Int.reduceToNat, Int.reduceAdd, Int.reduceSub, Int.reduceNeg, Int.reduceBEq, Int.reduceBNe, Nat.reduceBEq, Int.cast_ofNat_Int, decide_true, decide_false, ne_eq, eq_self_iff_true, beq_eq_false_iff_ne, bne_iff_ne, List.replicate, *]))))
    all_goals (simp [cut1, cut2, cut3, h])

def ac72 : AC := (.seq (.ops [⟨(some 4), none, (.mv (.c (.str [])))⟩, ⟨(some 5), none, (.mv (.c (.str [])))⟩, ⟨(some 6), none, (.mv (.c (.bool false)))⟩]) (.seq (.ops [⟨(some 7), none, (.mv (.t 0))⟩, ⟨(some 8), none, (.mv (.t 1))⟩, ⟨(some 9), none, (.call false 85 [(.t 7), (.t 8)])⟩, ⟨(some 10), none, (.ext (.t 9) 0)⟩, ⟨(some 11), none, (.ext (.t 9) 1)⟩, ⟨(some 12), none, (.ext (.t 9) 2)⟩, ⟨(some 4), none, (.mv (.t 10))⟩, ⟨(some 5), none, (.mv (.t 11))⟩, ⟨(some 6), none, (.mv (.t 12))⟩]) .ret))
theorem tr72 : Try.f72.body.bind (trCode Try.prog) = some (strip ac72) := by kernel_rfl
theorem spec72 (s : List UInt8) (hb : s.length ≤ 100000) : Spec Try.prog 72 [.fz (.str s), .fz (.str [58])] (.fz (.tup [.str (cut1 s), .str (cut2 s), .bool (cut3 s)])) := by
  refine spec_at (n := 11) (ars := [(.t 4), (.t 5), (.t 6)]) (ac := ac72) Try.func72 (by kernel_rfl) (by kernel_rfl) tr72 (by kernel_rfl) ?_
  unfold ac72
  iterate 30 (all_goals (try (first
    | ((with_reducible refine of_kSpec ?_); refine call_fz (spec85 s hb) rfl ?_)
    | (with_reducible refine ite_in (fun _ => ?_) (fun _ => ?_))
    | (with_reducible refine ⟨fun _ => ?_, fun _ => ?_⟩)
    | (with_reducible refine And.intro ?_ ?_)
    | (with_reducible intro _)
    | (with_reducible exact is_in _)
    | (simp -implicitDefEqProofs only [SD, SF, SL, e_nf, reduceCtorEq, implies_true, ↓reduceIte, Nat.reduceEqDiff, Nat.reduceAdd, Nat.reduceMul, Nat.reduceSub, Nat.reduceLeDiff, Nat.reduceLT, Int.reduceLT, Int.reduceLE, Int.reduceEq, Int.reduceToNat, Int.reduceAdd, Int.reduceSub, Int.reduceNeg, Int.reduceBEq, Int.reduceBNe, Nat.reduceBEq, Int.cast_ofNat_Int, decide_true, decide_false, ne_eq, eq_self_iff_true, beq_eq_false_iff_ne, bne_iff_ne, List.replicate, *]))))

end Go.Proofs.Ytcolebkklojccaa.E

namespace Go.Proofs.Ytcolebkklojccaa.E
open Go
set_option maxHeartbeats 4000000
set_option maxRecDepth 100000
set_option linter.unusedSimpArgs false
set_option linter.unusedVariables false
attribute [local congr] c_wp c_ops c_op c_opS c_run c_runS c_dt c_seq c_blk c_loop c_S c_put c_bind c_mv c_pick c_nt c_ng c_bin c_binI c_binS c_beq c_B c_eqa c_hd c_cells c_blkK c_box c_vec c_mp c_nck c_mks c_appn c_mkm c_mput c_mlk c_mrm c_take c_ld c_ldF c_cellsK c_st c_fld c_fldv c_ix c_ixp c_ixv c_ixs c_sub c_subs c_len c_lens c_src c_dst c_ow c_app c_ext c_mm c_conv c_str c_isn c_fill c_rows c_boxo c_frz c_frzO c_frzA c_frzV c_spec c_specO c_opsP c_opP c_runP c_specP c_Z c_qretP c_fz c_fn c_gv c_cond c_res1 c_resL c_ret c_qret c_ite c_unr c_nx c_bk c_cut c_is
attribute [local irreducible] dwp

theorem n_u8 (x : UInt8) (n : Nat) : ((x.toNat : Int) = n) = (x.toNat = n) := by
  apply propext
  constructor <;> intro h <;> omega
theorem mark_at' (x : UInt8) : Lib.indexByte [64, 33] x.toNat.toUInt8 = if x = 64 then 0 else if x = 33 then 1 else -1 := mark_at x
theorem u64 (x : UInt8) : (x.toNat = 64) = (x = 64) := by
  apply propext
  constructor
  · intro h
    exact UInt8.toNat_inj.1 h
  · rintro rfl
    rfl
theorem u33 (x : UInt8) : (x.toNat = 33) = (x = 33) := by
  apply propext
  constructor
  · intro h
    exact UInt8.toNat_inj.1 h
  · rintro rfl
    rfl
theorem cons0 (x : UInt8) (t : List UInt8) : (x :: t).getD 0 0 = x := rfl
theorem cons_lt (x : UInt8) (t : List UInt8) : (0 : Int) < ((x :: t).length : Int) := by simp only [List.length_cons]; omega
theorem cons_le (x : UInt8) (t : List UInt8) : 1 ≤ (x :: t).length := by simp
theorem cons_take (x : UInt8) (t : List UInt8) : ((x :: t).take (x :: t).length).drop 1 = t := by simp
theorem cons_nil (x : UInt8) (t : List UInt8) : (x :: t = []) = False := by simp
def markX (s : List UInt8) : Bool := markB s 64 || markB s 33
theorem markX_cons (x : UInt8) (t : List UInt8) : markX (x :: t) = (decide (x = 64 ∨ x = 33) && nameOK t) := by
  simp only [markX, markB, u64, u33]
  by_cases h1 : x = 64 <;> by_cases h2 : x = 33 <;> simp [h1, h2]
def ac62 : AC := (.seq (.ops [⟨(some 4), none, (.mv (.c (.str [])))⟩, ⟨(some 5), none, (.mv (.c (.str [])))⟩, ⟨(some 6), none, (.mv (.c (.bool false)))⟩]) (.seq (.seq (.ops [⟨(some 10), none, (.mv (.t 0))⟩, ⟨(some 11), none, (.bin .eql (.t 10) (.c (.str [])))⟩, ⟨(some 12), none, (.mv (.t 11))⟩, ⟨(some 13), (some (12, false)), (.mv (.t 1))⟩, ⟨(some 14), (some (12, false)), (.mv (.t 0))⟩, ⟨(some 15), (some (12, false)), (.ixs (.t 14) (.c (.int .i64 0)))⟩, ⟨(some 16), (some (12, false)), (.call false 71 [(.t 13), (.t 15)])⟩, ⟨(some 17), (some (12, false)), (.bin .lss (.t 16) (.c (.int .i64 0)))⟩, ⟨(some 18), none, (.pick (.t 12) (.c (.bool true)) (.t 17))⟩]) (.cond (.t 18) (.seq (.ops [⟨(some 4), none, (.mv (.c (.str [])))⟩, ⟨(some 5), none, (.mv (.c (.str [])))⟩, ⟨(some 6), none, (.mv (.c (.bool false)))⟩]) .ret) .skip)) (.seq (.ops [⟨(some 20), none, (.mv (.t 0))⟩, ⟨(some 21), none, (.subs (.t 20) (some (.c (.int .i64 1))) none)⟩, ⟨(some 22), none, (.call false 72 [(.t 21), (.c (.str [58]))])⟩, ⟨(some 19), none, (.mv (.t 22))⟩, ⟨(some 23), none, (.ext (.t 19) 0)⟩, ⟨(some 24), none, (.ext (.t 19) 1)⟩, ⟨(some 25), none, (.ext (.t 19) 2)⟩, ⟨(some 7), none, (.mv (.t 23))⟩, ⟨(some 8), none, (.mv (.t 24))⟩, ⟨(some 9), none, (.mv (.t 25))⟩]) (.seq (.seq (.ops [⟨(some 26), none, (.mv (.t 9))⟩, ⟨(some 27), none, (.nt (.t 26))⟩, ⟨(some 28), none, (.mv (.t 27))⟩, ⟨(some 29), (some (28, false)), (.mv (.t 7))⟩, ⟨(some 30), (some (28, false)), (.call false 73 [(.t 29)])⟩, ⟨(some 31), (some (28, false)), (.nt (.t 30))⟩, ⟨(some 32), none, (.pick (.t 28) (.c (.bool true)) (.t 31))⟩, ⟨(some 33), none, (.mv (.t 32))⟩, ⟨(some 34), (some (33, false)), (.mv (.t 8))⟩, ⟨(some 35), (some (33, false)), (.call false 74 [(.t 34)])⟩, ⟨(some 36), (some (33, false)), (.nt (.t 35))⟩, ⟨(some 37), none, (.pick (.t 33) (.c (.bool true)) (.t 36))⟩]) (.cond (.t 37) (.seq (.ops [⟨(some 4), none, (.mv (.c (.str [])))⟩, ⟨(some 5), none, (.mv (.c (.str [])))⟩, ⟨(some 6), none, (.mv (.c (.bool false)))⟩]) .ret) .skip)) (.seq (.ops [⟨(some 38), none, (.mv (.t 7))⟩, ⟨(some 39), none, (.mv (.t 8))⟩, ⟨(some 4), none, (.mv (.t 38))⟩, ⟨(some 5), none, (.mv (.t 39))⟩, ⟨(some 6), none, (.mv (.c (.bool true)))⟩]) .ret)))))
theorem tr62 : Try.f62.body.bind (trCode Try.prog) = some (strip ac62) := by kernel_rfl
theorem spec62 (s : List UInt8) (hb : s.length ≤ 100000) : Spec Try.prog 62 [.fz (.str s), .fz (.str [64, 33])] (.fz (.tup [.str (if markX s = true then cut1 (s.drop 1) else []), .str (if markX s = true then cut2 (s.drop 1) else []), .bool (markX s)])) := by
  refine spec_at (n := 38) (ars := [(.t 4), (.t 5), (.t 6)]) (ac := ac62) Try.func62 (by kernel_rfl) (by kernel_rfl) tr62 (by kernel_rfl) ?_
  unfold ac62
  cases s with
  | nil =>
    iterate 30 (all_goals (try (first
      | (with_reducible refine ite_in (fun _ => ?_) (fun _ => ?_))
      | (with_reducible refine ⟨fun _ => ?_, fun _ => ?_⟩)
      | (with_reducible refine And.intro ?_ ?_)
      | (with_reducible intro _)
      | (with_reducible exact is_in _)
      | (simp -implicitDefEqProofs only [SD, SF, SL, e_nf, reduceCtorEq, implies_true, ↓reduceIte, Nat.reduceEqDiff, Nat.reduceAdd, Nat.reduceMul, Nat.reduceSub, Nat.reduceLeDiff, Nat.reduceLT, Int.reduceLT, Int.reduceLE, Int.reduceEq, Int.reduceToNat, Int.reduceAdd, Int.reduceSub, Int.reduceNeg, Int.reduceBEq, Int.reduceBNe, Nat.reduceBEq, Int.cast_ofNat_Int, decide_true, decide_false, ne_eq, eq_self_iff_true, beq_eq_false_iff_ne, bne_iff_ne, List.replicate, *]))))
    all_goals (first | rfl | decide)
  | cons x t =>
    have hbt : t.length ≤ 100000 := by simp at hb; omega
    have ht : (List.drop 1 (x :: t)) = t := rfl
    have hs0 : (x :: t).getD 0 0 = x := rfl
    have hs1 : (0 : Int) < ((x :: t).length : Int) := cons_lt x t
    have hs2 : 1 ≤ (x :: t).length := cons_le x t
    have hs3 : ¬ (x :: t) = [] := by simp
    rw [markX_cons, ht]
    generalize (x :: t) = s at *
    by_cases h64 : x = 64
    · have hmk : Lib.indexByte [64, 33] x.toNat.toUInt8 = 0 := by rw [mark_at']; simp [h64]
      rw [show decide (x = 64 ∨ x = 33) = true by simp [h64], Bool.true_and]
      clear h64
      iterate 30 (all_goals (try (first
        | ((with_reducible refine of_kSpec ?_); refine call_fz (spec71 [64, 33] _) rfl ?_)
        | ((with_reducible refine of_kSpec ?_); refine call_fz (spec72 t hbt) rfl ?_)
        | ((with_reducible refine of_kSpec ?_); refine call_fz (spec73 _) rfl ?_)
        | ((with_reducible refine of_kSpec ?_); refine call_fz (spec74 _) rfl ?_)
        | (with_reducible refine ite_in (fun _ => ?_) (fun _ => ?_))
        | (with_reducible refine ⟨fun _ => ?_, fun _ => ?_⟩)
        | (with_reducible refine And.intro ?_ ?_)
        | (with_reducible intro _)
        | (with_reducible exact is_in _)
        | ((with_reducible refine eq_in ?_); (simp_all [nameOK]); done)
        | (simp -implicitDefEqProofs only [SD, SF, SL, e_nf, reduceCtorEq, implies_true, ↓reduceIte, Nat.reduceEqDiff, Nat.reduceAdd, Nat.reduceMul, Nat.reduceSub, Nat.reduceLeDiff, Nat.reduceLT, Int.reduceLT, Int.reduceLE, Int.reduceEq, Int.reduceToNat, Int.reduceAdd, Int.reduceSub, Int.reduceNeg, Int.reduceBEq, Int.reduceBNe, Nat.reduceBEq, Int.cast_ofNat_Int, decide_true, decide_false, ne_eq, eq_self_iff_true, beq_eq_false_iff_ne, bne_iff_ne, List.replicate, Int.toNat_natCast, List.take_length, *]))))
      all_goals (simp_all [nameOK])
    · by_cases h33 : x = 33
      · have hmk : Lib.indexByte [64, 33] x.toNat.toUInt8 = 1 := by rw [mark_at']; simp [h64, h33]
        rw [show decide (x = 64 ∨ x = 33) = true by simp [h33], Bool.true_and]
        clear h64 h33
        iterate 30 (all_goals (try (first
          | ((with_reducible refine of_kSpec ?_); refine call_fz (spec71 [64, 33] _) rfl ?_)
          | ((with_reducible refine of_kSpec ?_); refine call_fz (spec72 t hbt) rfl ?_)
          | ((with_reducible refine of_kSpec ?_); refine call_fz (spec73 _) rfl ?_)
          | ((with_reducible refine of_kSpec ?_); refine call_fz (spec74 _) rfl ?_)
          | (with_reducible refine ite_in (fun _ => ?_) (fun _ => ?_))
          | (with_reducible refine ⟨fun _ => ?_, fun _ => ?_⟩)
          | (with_reducible refine And.intro ?_ ?_)
          | (with_reducible intro _)
          | (with_reducible exact is_in _)
          | ((with_reducible refine eq_in ?_); (simp_all [nameOK]); done)
          | (simp -implicitDefEqProofs only [SD, SF, SL, e_nf, reduceCtorEq, implies_true, ↓reduceIte, Nat.reduceEqDiff, Nat.reduceAdd, Nat.reduceMul, Nat.reduceSub, Nat.reduceLeDiff, Nat.reduceLT, Int.reduceLT, Int.reduceLE, Int.reduceEq, Int.reduceToNat, Int.reduceAdd, Int.reduceSub, Int.reduceNeg, Int.reduceBEq, Int.reduceBNe, Nat.reduceBEq, Int.cast_ofNat_Int, decide_true, decide_false, ne_eq, eq_self_iff_true, beq_eq_false_iff_ne, bne_iff_ne, List.replicate, Int.toNat_natCast, List.take_length, *]))))
        all_goals (simp_all [nameOK])
      · have hmk : Lib.indexByte [64, 33] x.toNat.toUInt8 = -1 := by rw [mark_at']; simp [h64, h33]
        rw [show decide (x = 64 ∨ x = 33) = false by simp [h64, h33], Bool.false_and]
        clear h64 h33
        iterate 30 (all_goals (try (first
          | ((with_reducible refine of_kSpec ?_); refine call_fz (spec71 [64, 33] _) rfl ?_)
          | (with_reducible refine ite_in (fun _ => ?_) (fun _ => ?_))
          | (with_reducible refine ⟨fun _ => ?_, fun _ => ?_⟩)
          | (with_reducible refine And.intro ?_ ?_)
          | (with_reducible intro _)
          | (with_reducible exact is_in _)
          | ((with_reducible refine eq_in ?_); (simp_all [nameOK]); done)
          | (simp -implicitDefEqProofs only [SD, SF, SL, e_nf, reduceCtorEq, implies_true, ↓reduceIte, Nat.reduceEqDiff, Nat.reduceAdd, Nat.reduceMul, Nat.reduceSub, Nat.reduceLeDiff, Nat.reduceLT, Int.reduceLT, Int.reduceLE, Int.reduceEq, Int.reduceToNat, Int.reduceAdd, Int.reduceSub, Int.reduceNeg, Int.reduceBEq, Int.reduceBNe, Nat.reduceBEq, Int.cast_ofNat_Int, decide_true, decide_false, ne_eq, eq_self_iff_true, beq_eq_false_iff_ne, bne_iff_ne, List.replicate, Int.toNat_natCast, List.take_length, *]))))
        all_goals (simp_all [nameOK])

def ac56 : AC := (.seq (.ops [⟨(some 2), none, (.mv (.c (.str [])))⟩]) (.seq (.ops [⟨(some 7), none, (.mv (.t 0))⟩, ⟨(some 8), none, (.call false 62 [(.t 7), (.c (.str [64, 33]))])⟩, ⟨(some 6), none, (.mv (.t 8))⟩, ⟨(some 9), none, (.ext (.t 6) 0)⟩, ⟨(some 10), none, (.ext (.t 6) 1)⟩, ⟨(some 11), none, (.ext (.t 6) 2)⟩, ⟨(some 3), none, (.mv (.t 9))⟩, ⟨(some 4), none, (.mv (.t 10))⟩, ⟨(some 5), none, (.mv (.t 11))⟩]) (.seq (.ops [⟨(some 12), none, (.mv (.t 4))⟩, ⟨(some 2), none, (.mv (.t 12))⟩]) .ret)))
theorem tr56 : Try.f56.body.bind (trCode Try.prog) = some (strip ac56) := by kernel_rfl
theorem spec56 (s : List UInt8) (hb : s.length ≤ 100000) : Spec Try.prog 56 [.fz (.str s)] (.fz (.str (srvOf s))) := by
  refine spec_at (n := 12) (ars := [(.t 2)]) (ac := ac56) Try.func56 (by kernel_rfl) (by kernel_rfl) tr56 (by kernel_rfl) ?_
  unfold ac56
  iterate 30 (all_goals (try (first
    | ((with_reducible refine of_kSpec ?_); refine call_fz (spec62 s hb) rfl ?_)
    | (with_reducible refine ite_in (fun _ => ?_) (fun _ => ?_))
    | (with_reducible refine ⟨fun _ => ?_, fun _ => ?_⟩)
    | (with_reducible refine And.intro ?_ ?_)
    | (with_reducible intro _)
    | (with_reducible exact is_in _)
    | (simp -implicitDefEqProofs only [SD, SF, SL, e_nf, reduceCtorEq, implies_true, ↓reduceIte, Nat.reduceEqDiff, Nat.reduceAdd, Nat.reduceMul, Nat.reduceSub, Nat.reduceLeDiff, Nat.reduceLT, Int.reduceLT, Int.reduceLE, Int.reduceEq, Int.reduceToNat, Int.reduceAdd, Int.reduceSub, Int.reduceNeg, Int.reduceBEq, Int.reduceBNe, Nat.reduceBEq, Int.cast_ofNat_Int, decide_true, decide_false, ne_eq, eq_self_iff_true, beq_eq_false_iff_ne, bne_iff_ne, List.replicate, *]))))
  all_goals (first | rfl | simp [srvOf, markX])

end Go.Proofs.Ytcolebkklojccaa.E
