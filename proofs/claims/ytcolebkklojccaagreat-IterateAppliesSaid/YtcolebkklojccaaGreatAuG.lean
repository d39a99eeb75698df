/-
  AuG: walks of functions of the program at data level.
-/
import Derived.Test.YtcolebkklojccaaGreatProg
import Derived.Test.YtcolebkklojccaaGreatEngZ
import Derived.Test.YtcolebkklojccaaGreatAuA
import Derived.KernelRfl
import Derived.Shelf.Strings.Search1
set_option linter.unusedVariables false
set_option linter.unusedSimpArgs false
namespace Go.Proofs.YtcolebkklojccaaGreat.E
open Go
set_option maxHeartbeats 4000000
set_option maxRecDepth 100000
set_option linter.unusedSimpArgs false
set_option linter.unusedVariables false
attribute [local congr] c_wp c_ops c_op c_opS c_run c_runS c_dt c_seq c_blk c_loop c_S c_put c_bind c_mv c_pick c_nt c_ng c_bin c_binI c_binS c_beq c_B c_eqa c_hd c_cells c_blkK c_box c_vec c_mp c_nck c_mks c_appn c_mkm c_mput c_mlk c_mrm c_take c_ld c_ldF c_cellsK c_st c_fld c_fldv c_ix c_ixp c_ixv c_ixs c_sub c_subs c_len c_lens c_src c_dst c_ow c_app c_ext c_mm c_conv c_str c_isn c_fill c_rows c_boxo c_frz c_frzO c_frzA c_frzV c_spec c_specO c_opsP c_opP c_runP c_specP c_Z c_qretP c_fz c_fn c_gv c_cond c_res1 c_resL c_ret c_qret c_ite c_unr c_nx c_bk c_cut c_is
attribute [local irreducible] dwp

theorem cutS {s pre : List UInt8} {x : UInt8} {rest : List UInt8} (h : s = pre ++ x :: rest) : s.getD pre.length 0 = x := by
  subst h
  simp [List.getD]
def letterI (n : Int) : Bool := decide ((97 ≤ n ∧ n ≤ 122) ∨ (48 ≤ n ∧ n ≤ 57))
def locI (n : Int) : Bool := decide (n = 95 ∨ n = 46 ∨ n = 45 ∨ n = 61)
def srvI (n : Int) : Bool := decide (n = 46 ∨ n = 45)
def okLc (b : UInt8) : Bool := letterI b.toNat || locI b.toNat
def okSc (b : UInt8) : Bool := letterI b.toNat || srvI b.toNat
def lenB (s : List UInt8) : Bool := decide (1 ≤ s.length ∧ s.length ≤ 32)
def localB (s : List UInt8) : Bool := lenB s && s.all okLc
def serverB (s : List UInt8) : Bool := lenB s && s.all okSc && letterI (s.getD 0 0).toNat && letterI (s.getD (s.length - 1) 0).toNat
def ac113 : AC := (.seq (.ops [⟨(some 2), none, (.mv (.c (.bool false)))⟩]) (.seq (.ops [⟨(some 3), none, (.mv (.t 0))⟩, ⟨(some 4), none, (.bin .geq (.t 3) (.c (.int .u8 97)))⟩, ⟨(some 5), none, (.mv (.t 4))⟩, ⟨(some 6), (some (5, true)), (.mv (.t 0))⟩, ⟨(some 7), (some (5, true)), (.bin .leq (.t 6) (.c (.int .u8 122)))⟩, ⟨(some 8), none, (.pick (.t 5) (.t 7) (.c (.bool false)))⟩, ⟨(some 9), none, (.mv (.t 8))⟩, ⟨(some 10), (some (9, false)), (.mv (.t 0))⟩, ⟨(some 11), (some (9, false)), (.bin .geq (.t 10) (.c (.int .u8 48)))⟩, ⟨(some 12), (some (9, false)), (.mv (.t 11))⟩, ⟨(some 13), (some (12, true)), (.mv (.t 0))⟩, ⟨(some 14), (some (12, true)), (.bin .leq (.t 13) (.c (.int .u8 57)))⟩, ⟨(some 15), (some (9, false)), (.pick (.t 12) (.t 14) (.c (.bool false)))⟩, ⟨(some 16), none, (.pick (.t 9) (.c (.bool true)) (.t 15))⟩, ⟨(some 2), none, (.mv (.t 16))⟩]) .ret))
theorem tr113 : Tryz.f113.body.bind (trCode Tryz.prog) = some (strip ac113) := by kernel_rfl
theorem spec113 (n : Int) : Spec Tryz.prog 113 [.fz (.int .u8 n)] (.fz (.bool (letterI n))) := by
  refine spec_at (n := 16) (ars := [(.t 2)]) (ac := ac113) Tryz.func113 (by kernel_rfl) (by kernel_rfl) tr113 (by kernel_rfl) ?_
  unfold ac113
  iterate 30 (all_goals (try (first
    | (with_reducible refine ite_in (fun _ => ?_) (fun _ => ?_))
    | (with_reducible refine ⟨fun _ => ?_, fun _ => ?_⟩)
    | (with_reducible refine And.intro ?_ ?_)
    | (with_reducible intro _)
    | (with_reducible exact is_in _)
    | (simp -implicitDefEqProofs only [SD, SF, SL, e_nf, reduceCtorEq, implies_true, ↓reduceIte, Nat.reduceEqDiff, Nat.reduceAdd, Nat.reduceMul, Nat.reduceSub, Nat.reduceLeDiff, Nat.reduceLT, Int.reduceLT, Int.reduceLE, Int.reduceEq, Int.reduceToNat, Int.reduceAdd, Int.reduceSub, Int.reduceNeg, Int.reduceBEq, Int.reduceBNe, Nat.reduceBEq, Int.cast_ofNat_Int, decide_true, decide_false, ne_eq, eq_self_iff_true, beq_eq_false_iff_ne, bne_iff_ne, List.replicate, *]))))
  all_goals (first | (simp_all [letterI]; done) | grind [letterI])
def ac94 : AC := (.seq (.ops [⟨(some 2), none, (.mv (.c (.bool false)))⟩]) (.seq (.ops [⟨(some 3), none, (.mv (.t 0))⟩, ⟨(some 4), none, (.bin .geq (.t 3) (.c (.int .u8 97)))⟩, ⟨(some 5), none, (.mv (.t 4))⟩, ⟨(some 6), (some (5, true)), (.mv (.t 0))⟩, ⟨(some 7), (some (5, true)), (.bin .leq (.t 6) (.c (.int .u8 122)))⟩, ⟨(some 8), none, (.pick (.t 5) (.t 7) (.c (.bool false)))⟩, ⟨(some 9), none, (.mv (.t 8))⟩, ⟨(some 10), (some (9, false)), (.mv (.t 0))⟩, ⟨(some 11), (some (9, false)), (.bin .geq (.t 10) (.c (.int .u8 48)))⟩, ⟨(some 12), (some (9, false)), (.mv (.t 11))⟩, ⟨(some 13), (some (12, true)), (.mv (.t 0))⟩, ⟨(some 14), (some (12, true)), (.bin .leq (.t 13) (.c (.int .u8 57)))⟩, ⟨(some 15), (some (9, false)), (.pick (.t 12) (.t 14) (.c (.bool false)))⟩, ⟨(some 16), none, (.pick (.t 9) (.c (.bool true)) (.t 15))⟩, ⟨(some 2), none, (.mv (.t 16))⟩]) .ret))
theorem tr94 : Tryz.f94.body.bind (trCode Tryz.prog) = some (strip ac94) := by kernel_rfl
theorem spec94 (n : Int) : Spec Tryz.prog 94 [.fz (.int .u8 n)] (.fz (.bool (letterI n))) := by
  refine spec_at (n := 16) (ars := [(.t 2)]) (ac := ac94) Tryz.func94 (by kernel_rfl) (by kernel_rfl) tr94 (by kernel_rfl) ?_
  unfold ac94
  iterate 30 (all_goals (try (first
    | (with_reducible refine ite_in (fun _ => ?_) (fun _ => ?_))
    | (with_reducible refine ⟨fun _ => ?_, fun _ => ?_⟩)
    | (with_reducible refine And.intro ?_ ?_)
    | (with_reducible intro _)
    | (with_reducible exact is_in _)
    | (simp -implicitDefEqProofs only [SD, SF, SL, e_nf, reduceCtorEq, implies_true, ↓reduceIte, Nat.reduceEqDiff, Nat.reduceAdd, Nat.reduceMul, Nat.reduceSub, Nat.reduceLeDiff, Nat.reduceLT, Int.reduceLT, Int.reduceLE, Int.reduceEq, Int.reduceToNat, Int.reduceAdd, Int.reduceSub, Int.reduceNeg, Int.reduceBEq, Int.reduceBNe, Nat.reduceBEq, Int.cast_ofNat_Int, decide_true, decide_false, ne_eq, eq_self_iff_true, beq_eq_false_iff_ne, bne_iff_ne, List.replicate, *]))))
  all_goals (first | (simp_all [letterI]; done) | grind [letterI])
def ac111 : AC := (.seq (.ops [⟨(some 2), none, (.mv (.c (.bool false)))⟩]) (.seq (.ops [⟨(some 3), none, (.mv (.t 0))⟩, ⟨(some 4), none, (.bin .eql (.t 3) (.c (.int .u8 95)))⟩, ⟨(some 5), none, (.mv (.t 4))⟩, ⟨(some 6), (some (5, false)), (.mv (.t 0))⟩, ⟨(some 7), (some (5, false)), (.bin .eql (.t 6) (.c (.int .u8 46)))⟩, ⟨(some 8), none, (.pick (.t 5) (.c (.bool true)) (.t 7))⟩, ⟨(some 9), none, (.mv (.t 8))⟩, ⟨(some 10), (some (9, false)), (.mv (.t 0))⟩, ⟨(some 11), (some (9, false)), (.bin .eql (.t 10) (.c (.int .u8 45)))⟩, ⟨(some 12), none, (.pick (.t 9) (.c (.bool true)) (.t 11))⟩, ⟨(some 13), none, (.mv (.t 12))⟩, ⟨(some 14), (some (13, false)), (.mv (.t 0))⟩, ⟨(some 15), (some (13, false)), (.bin .eql (.t 14) (.c (.int .u8 61)))⟩, ⟨(some 16), none, (.pick (.t 13) (.c (.bool true)) (.t 15))⟩, ⟨(some 2), none, (.mv (.t 16))⟩]) .ret))
theorem tr111 : Tryz.f111.body.bind (trCode Tryz.prog) = some (strip ac111) := by kernel_rfl
theorem spec111 (n : Int) : Spec Tryz.prog 111 [.fz (.int .u8 n)] (.fz (.bool (locI n))) := by
  refine spec_at (n := 16) (ars := [(.t 2)]) (ac := ac111) Tryz.func111 (by kernel_rfl) (by kernel_rfl) tr111 (by kernel_rfl) ?_
  unfold ac111
  iterate 30 (all_goals (try (first
    | (with_reducible refine ite_in (fun _ => ?_) (fun _ => ?_))
    | (with_reducible refine ⟨fun _ => ?_, fun _ => ?_⟩)
    | (with_reducible refine And.intro ?_ ?_)
    | (with_reducible intro _)
    | (with_reducible exact is_in _)
    | (simp -implicitDefEqProofs only [SD, SF, SL, e_nf, reduceCtorEq, implies_true, ↓reduceIte, Nat.reduceEqDiff, Nat.reduceAdd, Nat.reduceMul, Nat.reduceSub, Nat.reduceLeDiff, Nat.reduceLT, Int.reduceLT, Int.reduceLE, Int.reduceEq, Int.reduceToNat, Int.reduceAdd, Int.reduceSub, Int.reduceNeg, Int.reduceBEq, Int.reduceBNe, Nat.reduceBEq, Int.cast_ofNat_Int, decide_true, decide_false, ne_eq, eq_self_iff_true, beq_eq_false_iff_ne, bne_iff_ne, List.replicate, *]))))
  all_goals (first | (simp_all [locI]; done) | grind [locI])
def ac112 : AC := (.seq (.ops [⟨(some 2), none, (.mv (.c (.bool false)))⟩]) (.seq (.ops [⟨(some 3), none, (.mv (.t 0))⟩, ⟨(some 4), none, (.bin .eql (.t 3) (.c (.int .u8 46)))⟩, ⟨(some 5), none, (.mv (.t 4))⟩, ⟨(some 6), (some (5, false)), (.mv (.t 0))⟩, ⟨(some 7), (some (5, false)), (.bin .eql (.t 6) (.c (.int .u8 45)))⟩, ⟨(some 8), none, (.pick (.t 5) (.c (.bool true)) (.t 7))⟩, ⟨(some 2), none, (.mv (.t 8))⟩]) .ret))
theorem tr112 : Tryz.f112.body.bind (trCode Tryz.prog) = some (strip ac112) := by kernel_rfl
theorem spec112 (n : Int) : Spec Tryz.prog 112 [.fz (.int .u8 n)] (.fz (.bool (srvI n))) := by
  refine spec_at (n := 8) (ars := [(.t 2)]) (ac := ac112) Tryz.func112 (by kernel_rfl) (by kernel_rfl) tr112 (by kernel_rfl) ?_
  unfold ac112
  iterate 30 (all_goals (try (first
    | (with_reducible refine ite_in (fun _ => ?_) (fun _ => ?_))
    | (with_reducible refine ⟨fun _ => ?_, fun _ => ?_⟩)
    | (with_reducible refine And.intro ?_ ?_)
    | (with_reducible intro _)
    | (with_reducible exact is_in _)
    | (simp -implicitDefEqProofs only [SD, SF, SL, e_nf, reduceCtorEq, implies_true, ↓reduceIte, Nat.reduceEqDiff, Nat.reduceAdd, Nat.reduceMul, Nat.reduceSub, Nat.reduceLeDiff, Nat.reduceLT, Int.reduceLT, Int.reduceLE, Int.reduceEq, Int.reduceToNat, Int.reduceAdd, Int.reduceSub, Int.reduceNeg, Int.reduceBEq, Int.reduceBNe, Nat.reduceBEq, Int.cast_ofNat_Int, decide_true, decide_false, ne_eq, eq_self_iff_true, beq_eq_false_iff_ne, bne_iff_ne, List.replicate, *]))))
  all_goals (first | (simp_all [srvI]; done) | grind [srvI])
def ac110 : AC := (.seq (.ops [⟨(some 4), none, (.mv (.c (.bool false)))⟩]) (.seq (.seq (.ops [⟨(some 6), none, (.mv (.t 0))⟩, ⟨(some 7), none, (.lens (.t 6))⟩, ⟨(some 8), none, (.bin .lss (.t 7) (.c (.int .i64 1)))⟩, ⟨(some 9), none, (.mv (.t 8))⟩, ⟨(some 10), (some (9, false)), (.mv (.t 0))⟩, ⟨(some 11), (some (9, false)), (.lens (.t 10))⟩, ⟨(some 12), (some (9, false)), (.bin .gtr (.t 11) (.c (.int .i64 32)))⟩, ⟨(some 13), none, (.pick (.t 9) (.c (.bool true)) (.t 12))⟩]) (.cond (.t 13) (.seq (.ops [⟨(some 4), none, (.mv (.c (.bool false)))⟩]) .ret) .skip)) (.seq (.seq (.ops [⟨(some 14), none, (.mv (.t 0))⟩, ⟨(some 15), none, (.lens (.t 14))⟩, ⟨(some 16), none, (.mv (.c (.int .i64 0)))⟩]) (.block 0 (.loop (.seq (.ops [⟨(some 17), none, (.bin .lss (.t 16) (.t 15))⟩]) (.seq (.cond (.t 17) .skip (.exit 0)) (.seq (.block 1 (.seq (.ops [⟨(some 18), none, (.mv (.t 16))⟩, ⟨(some 5), none, (.mv (.t 18))⟩]) (.seq (.ops [⟨(some 19), none, (.mv (.t 0))⟩, ⟨(some 20), none, (.mv (.t 5))⟩, ⟨(some 21), none, (.ixs (.t 19) (.t 20))⟩, ⟨(some 22), none, (.call false 113 [(.t 21)])⟩, ⟨(some 23), none, (.nt (.t 22))⟩, ⟨(some 24), none, (.mv (.t 23))⟩, ⟨(some 25), (some (24, true)), (.mv (.t 1))⟩, ⟨(some 26), (some (24, true)), (.mv (.t 0))⟩, ⟨(some 27), (some (24, true)), (.mv (.t 5))⟩, ⟨(some 28), (some (24, true)), (.ixs (.t 26) (.t 27))⟩, ⟨(some 29), (some (24, true)), (.callv (.t 25) [(.t 28)])⟩, ⟨(some 30), (some (24, true)), (.nt (.t 29))⟩, ⟨(some 31), none, (.pick (.t 24) (.t 30) (.c (.bool false)))⟩]) (.cond (.t 31) (.seq (.ops [⟨(some 4), none, (.mv (.c (.bool false)))⟩]) .ret) .skip)))) (.ops [⟨(some 32), none, (.bin .add (.t 16) (.c (.int .i64 1)))⟩, ⟨(some 16), none, (.mv (.t 32))⟩]))))))) (.seq (.ops [⟨(some 4), none, (.mv (.c (.bool true)))⟩]) .ret))))
theorem tr110 : Tryz.f110.body.bind (trCode Tryz.prog) = some (strip ac110) := by kernel_rfl
theorem specL110 (s : List UInt8) : Spec Tryz.prog 110 [.fz (.str s), .fz (.fn 111 [])] (.fz (.bool (lenB s && s.all okLc))) := by
  refine spec_at (n := 31) (ars := [(.t 4)]) (ac := ac110) Tryz.func110 (by kernel_rfl) (by kernel_rfl) tr110 (by kernel_rfl) ?_
  unfold ac110
  iterate 8 (all_goals (try (first
    | (with_reducible refine ite_in (fun _ => ?_) (fun _ => ?_))
    | (with_reducible refine ⟨fun _ => ?_, fun _ => ?_⟩)
    | (with_reducible refine And.intro ?_ ?_)
    | (with_reducible intro _)
    | (with_reducible exact is_in _)
    | ((with_reducible refine eq_in ?_); (grind [lenB]); done)
    | (simp -implicitDefEqProofs only [SD, SF, SL, e_nf, reduceCtorEq, implies_true, ↓reduceIte, Nat.reduceEqDiff, Nat.reduceAdd, Nat.reduceMul, Nat.reduceSub, Nat.reduceLeDiff, Nat.reduceLT, Int.reduceLT, Int.reduceLE, Int.reduceEq, Int.reduceToNat, Int.reduceAdd, Int.reduceSub, Int.reduceNeg, Int.reduceBEq, Int.reduceBNe, Nat.reduceBEq, Int.cast_ofNat_Int, decide_true, decide_false, ne_eq, eq_self_iff_true, beq_eq_false_iff_ne, bne_iff_ne, List.replicate, *]))))
  rename_i hl h1 h32
  refine loop_q (X := List UInt8 × List UInt8 × Unit) (fun n x => s = x.1 ++ x.2.1 ∧ n = x.2.1.length ∧ (x.1.all okLc = true)) (fun x => [(16, .int .i64 x.1.length)]) (fun _ => []) [4, 5, 17, 18, 19, 20, 21, 22, 23, 24, 25, 26, 27, 28, 29, 30, 31, 32] []  (s).length ([], s, ()) ⟨rfl, rfl, by first | rfl | exact all_snoc hI (by simp_all [okLc])⟩ ?_ ?_
  · simp -implicitDefEqProofs only [SD, SF, SL, e_nf, reduceCtorEq, implies_true, ↓reduceIte, Nat.reduceEqDiff, Nat.reduceAdd, Nat.reduceMul, Nat.reduceSub, Nat.reduceLeDiff, Nat.reduceLT, Int.reduceLT, Int.reduceLE, Int.reduceEq, Int.reduceToNat, Int.reduceAdd, Int.reduceSub, Int.reduceNeg, Int.reduceBEq, Int.reduceBNe, Nat.reduceBEq, Int.cast_ofNat_Int, decide_true, decide_false, ne_eq, eq_self_iff_true, beq_eq_false_iff_ne, bne_iff_ne, List.replicate] <;> simp
  · rintro n ⟨pre, rest, a⟩ ⟨he, rfl, hI⟩
    dsimp only at he hI
    cases rest with
    | nil =>
      obtain rfl : s = pre := by simpa using he
      clear he
      have hlt : ¬ (((s).length : Int) < ((s).length : Int)) := Int.lt_irrefl _
      iterate 30 (all_goals (try (first
        | ((with_reducible refine of_kSpec ?_); refine call_fz (spec113 _) rfl ?_)
        | ((with_reducible refine of_kSpec ?_); refine call_fz (spec111 _) rfl ?_)
        | (with_reducible refine ite_in (fun _ => ?_) (fun _ => ?_))
        | (with_reducible refine ⟨fun _ => ?_, fun _ => ?_⟩)
        | (with_reducible refine And.intro ?_ ?_)
        | (with_reducible intro _)
        | (with_reducible exact is_in _)
        | ((with_reducible refine eq_in ?_); (grind [lenB]); done)
        | (simp -implicitDefEqProofs only [SD, SF, SL, e_nf, reduceCtorEq, implies_true, ↓reduceIte, Nat.reduceEqDiff, Nat.reduceAdd, Nat.reduceMul, Nat.reduceSub, Nat.reduceLeDiff, Nat.reduceLT, Int.reduceLT, Int.reduceLE, Int.reduceEq, Int.reduceToNat, Int.reduceAdd, Int.reduceSub, Int.reduceNeg, Int.reduceBEq, Int.reduceBNe, Nat.reduceBEq, Int.cast_ofNat_Int, decide_true, decide_false, ne_eq, eq_self_iff_true, beq_eq_false_iff_ne, bne_iff_ne, List.replicate, *]))))

    | cons x rest =>
      have hlt := cut_lt he
      have hx := cutS he
      have hw := wrap_len (n := pre.length) (m := (s).length) (cut_lt' he) (by simpa using hl)
      replace he := Hd.mk he
      have hf : okLc x = false → s.all okLc = false := fun h => all_cut he.out h
      simp only [okLc] at hf
      iterate 30 (all_goals (try (first
        | ((with_reducible refine back_in rest.length [4, 5, 17, 18, 19, 20, 21, 22, 23, 24, 25, 26, 27, 28, 29, 30, 31, 32] [] (pre ++ [x], rest, a) ?_ ⟨?_, ?_, ?_⟩ ?_)
           · simp
           · exact cut_snoc he.out
           · rfl
           · first | rfl | exact all_snoc hI (by simp_all [okLc])
           · first | (simp -implicitDefEqProofs only [SD, SF, SL, e_nf, reduceCtorEq, implies_true, ↓reduceIte, Nat.reduceEqDiff, Nat.reduceAdd, Nat.reduceMul, Nat.reduceSub, Nat.reduceLeDiff, Nat.reduceLT, Int.reduceLT, Int.reduceLE, Int.reduceEq, Int.reduceToNat, Int.reduceAdd, Int.reduceSub, Int.reduceNeg, Int.reduceBEq, Int.reduceBNe, Nat.reduceBEq, Int.cast_ofNat_Int, decide_true, decide_false, ne_eq, eq_self_iff_true, beq_eq_false_iff_ne, bne_iff_ne, List.replicate] <;> simp <;> done) | (simp -implicitDefEqProofs only [SD, SF, SL, e_nf, reduceCtorEq, implies_true, ↓reduceIte, Nat.reduceEqDiff, Nat.reduceAdd, Nat.reduceMul, Nat.reduceSub, Nat.reduceLeDiff, Nat.reduceLT, Int.reduceLT, Int.reduceLE, Int.reduceEq, Int.reduceToNat, Int.reduceAdd, Int.reduceSub, Int.reduceNeg, Int.reduceBEq, Int.reduceBNe, Nat.reduceBEq, Int.cast_ofNat_Int, decide_true, decide_false, ne_eq, eq_self_iff_true, beq_eq_false_iff_ne, bne_iff_ne, List.replicate, *] <;> simp_all <;> done))
        | ((with_reducible refine of_kSpec ?_); refine call_fz (spec113 _) rfl ?_)
        | ((with_reducible refine of_kSpec ?_); refine call_fz (spec111 _) rfl ?_)
        | (with_reducible refine ite_in (fun _ => ?_) (fun _ => ?_))
        | (with_reducible refine ⟨fun _ => ?_, fun _ => ?_⟩)
        | (with_reducible refine And.intro ?_ ?_)
        | (with_reducible intro _)
        | (with_reducible exact is_in _)
        | ((with_reducible refine eq_in ?_); (grind [lenB]); done)
        | (simp -implicitDefEqProofs only [SD, SF, SL, e_nf, reduceCtorEq, implies_true, ↓reduceIte, Nat.reduceEqDiff, Nat.reduceAdd, Nat.reduceMul, Nat.reduceSub, Nat.reduceLeDiff, Nat.reduceLT, Int.reduceLT, Int.reduceLE, Int.reduceEq, Int.reduceToNat, Int.reduceAdd, Int.reduceSub, Int.reduceNeg, Int.reduceBEq, Int.reduceBNe, Nat.reduceBEq, Int.cast_ofNat_Int, decide_true, decide_false, ne_eq, eq_self_iff_true, beq_eq_false_iff_ne, bne_iff_ne, List.replicate, *]))))
theorem specS110 (s : List UInt8) : Spec Tryz.prog 110 [.fz (.str s), .fz (.fn 112 [])] (.fz (.bool (lenB s && s.all okSc))) := by
  refine spec_at (n := 31) (ars := [(.t 4)]) (ac := ac110) Tryz.func110 (by kernel_rfl) (by kernel_rfl) tr110 (by kernel_rfl) ?_
  unfold ac110
  iterate 8 (all_goals (try (first
    | (with_reducible refine ite_in (fun _ => ?_) (fun _ => ?_))
    | (with_reducible refine ⟨fun _ => ?_, fun _ => ?_⟩)
    | (with_reducible refine And.intro ?_ ?_)
    | (with_reducible intro _)
    | (with_reducible exact is_in _)
    | ((with_reducible refine eq_in ?_); (grind [lenB]); done)
    | (simp -implicitDefEqProofs only [SD, SF, SL, e_nf, reduceCtorEq, implies_true, ↓reduceIte, Nat.reduceEqDiff, Nat.reduceAdd, Nat.reduceMul, Nat.reduceSub, Nat.reduceLeDiff, Nat.reduceLT, Int.reduceLT, Int.reduceLE, Int.reduceEq, Int.reduceToNat, Int.reduceAdd, Int.reduceSub, Int.reduceNeg, Int.reduceBEq, Int.reduceBNe, Nat.reduceBEq, Int.cast_ofNat_Int, decide_true, decide_false, ne_eq, eq_self_iff_true, beq_eq_false_iff_ne, bne_iff_ne, List.replicate, *]))))
  rename_i hl h1 h32
  refine loop_q (X := List UInt8 × List UInt8 × Unit) (fun n x => s = x.1 ++ x.2.1 ∧ n = x.2.1.length ∧ (x.1.all okSc = true)) (fun x => [(16, .int .i64 x.1.length)]) (fun _ => []) [4, 5, 17, 18, 19, 20, 21, 22, 23, 24, 25, 26, 27, 28, 29, 30, 31, 32] []  (s).length ([], s, ()) ⟨rfl, rfl, by first | rfl | exact all_snoc hI (by simp_all [okSc])⟩ ?_ ?_
  · simp -implicitDefEqProofs only [SD, SF, SL, e_nf, reduceCtorEq, implies_true, ↓reduceIte, Nat.reduceEqDiff, Nat.reduceAdd, Nat.reduceMul, Nat.reduceSub, Nat.reduceLeDiff, Nat.reduceLT, Int.reduceLT, Int.reduceLE, Int.reduceEq, Int.reduceToNat, Int.reduceAdd, Int.reduceSub, Int.reduceNeg, Int.reduceBEq, Int.reduceBNe, Nat.reduceBEq, Int.cast_ofNat_Int, decide_true, decide_false, ne_eq, eq_self_iff_true, beq_eq_false_iff_ne, bne_iff_ne, List.replicate] <;> simp
  · rintro n ⟨pre, rest, a⟩ ⟨he, rfl, hI⟩
    dsimp only at he hI
    cases rest with
    | nil =>
      obtain rfl : s = pre := by simpa using he
      clear he
      have hlt : ¬ (((s).length : Int) < ((s).length : Int)) := Int.lt_irrefl _
      iterate 30 (all_goals (try (first
        | ((with_reducible refine of_kSpec ?_); refine call_fz (spec113 _) rfl ?_)
        | ((with_reducible refine of_kSpec ?_); refine call_fz (spec112 _) rfl ?_)
        | (with_reducible refine ite_in (fun _ => ?_) (fun _ => ?_))
        | (with_reducible refine ⟨fun _ => ?_, fun _ => ?_⟩)
        | (with_reducible refine And.intro ?_ ?_)
        | (with_reducible intro _)
        | (with_reducible exact is_in _)
        | ((with_reducible refine eq_in ?_); (grind [lenB]); done)
        | (simp -implicitDefEqProofs only [SD, SF, SL, e_nf, reduceCtorEq, implies_true, ↓reduceIte, Nat.reduceEqDiff, Nat.reduceAdd, Nat.reduceMul, Nat.reduceSub, Nat.reduceLeDiff, Nat.reduceLT, Int.reduceLT, Int.reduceLE, Int.reduceEq, Int.reduceToNat, Int.reduceAdd, Int.reduceSub, Int.reduceNeg, Int.reduceBEq, Int.reduceBNe, Nat.reduceBEq, Int.cast_ofNat_Int, decide_true, decide_false, ne_eq, eq_self_iff_true, beq_eq_false_iff_ne, bne_iff_ne, List.replicate, *]))))

    | cons x rest =>
      have hlt := cut_lt he
      have hx := cutS he
      have hw := wrap_len (n := pre.length) (m := (s).length) (cut_lt' he) (by simpa using hl)
      replace he := Hd.mk he
      have hf : okSc x = false → s.all okSc = false := fun h => all_cut he.out h
      simp only [okSc] at hf
      iterate 30 (all_goals (try (first
        | ((with_reducible refine back_in rest.length [4, 5, 17, 18, 19, 20, 21, 22, 23, 24, 25, 26, 27, 28, 29, 30, 31, 32] [] (pre ++ [x], rest, a) ?_ ⟨?_, ?_, ?_⟩ ?_)
           · simp
           · exact cut_snoc he.out
           · rfl
           · first | rfl | exact all_snoc hI (by simp_all [okSc])
           · first | (simp -implicitDefEqProofs only [SD, SF, SL, e_nf, reduceCtorEq, implies_true, ↓reduceIte, Nat.reduceEqDiff, Nat.reduceAdd, Nat.reduceMul, Nat.reduceSub, Nat.reduceLeDiff, Nat.reduceLT, Int.reduceLT, Int.reduceLE, Int.reduceEq, Int.reduceToNat, Int.reduceAdd, Int.reduceSub, Int.reduceNeg, Int.reduceBEq, Int.reduceBNe, Nat.reduceBEq, Int.cast_ofNat_Int, decide_true, decide_false, ne_eq, eq_self_iff_true, beq_eq_false_iff_ne, bne_iff_ne, List.replicate] <;> simp <;> done) | (simp -implicitDefEqProofs only [SD, SF, SL, e_nf, reduceCtorEq, implies_true, ↓reduceIte, Nat.reduceEqDiff, Nat.reduceAdd, Nat.reduceMul, Nat.reduceSub, Nat.reduceLeDiff, Nat.reduceLT, Int.reduceLT, Int.reduceLE, Int.reduceEq, Int.reduceToNat, Int.reduceAdd, Int.reduceSub, Int.reduceNeg, Int.reduceBEq, Int.reduceBNe, Nat.reduceBEq, Int.cast_ofNat_Int, decide_true, decide_false, ne_eq, eq_self_iff_true, beq_eq_false_iff_ne, bne_iff_ne, List.replicate, *] <;> simp_all <;> done))
        | ((with_reducible refine of_kSpec ?_); refine call_fz (spec113 _) rfl ?_)
        | ((with_reducible refine of_kSpec ?_); refine call_fz (spec112 _) rfl ?_)
        | (with_reducible refine ite_in (fun _ => ?_) (fun _ => ?_))
        | (with_reducible refine ⟨fun _ => ?_, fun _ => ?_⟩)
        | (with_reducible refine And.intro ?_ ?_)
        | (with_reducible intro _)
        | (with_reducible exact is_in _)
        | ((with_reducible refine eq_in ?_); (grind [lenB]); done)
        | (simp -implicitDefEqProofs only [SD, SF, SL, e_nf, reduceCtorEq, implies_true, ↓reduceIte, Nat.reduceEqDiff, Nat.reduceAdd, Nat.reduceMul, Nat.reduceSub, Nat.reduceLeDiff, Nat.reduceLT, Int.reduceLT, Int.reduceLE, Int.reduceEq, Int.reduceToNat, Int.reduceAdd, Int.reduceSub, Int.reduceNeg, Int.reduceBEq, Int.reduceBNe, Nat.reduceBEq, Int.cast_ofNat_Int, decide_true, decide_false, ne_eq, eq_self_iff_true, beq_eq_false_iff_ne, bne_iff_ne, List.replicate, *]))))

end Go.Proofs.YtcolebkklojccaaGreat.E

namespace Go.Proofs.YtcolebkklojccaaGreat.E
open Go
set_option maxHeartbeats 4000000
set_option maxRecDepth 100000
set_option linter.unusedSimpArgs false
set_option linter.unusedVariables false
attribute [local congr] c_wp c_ops c_op c_opS c_run c_runS c_dt c_seq c_blk c_loop c_S c_put c_bind c_mv c_pick c_nt c_ng c_bin c_binI c_binS c_beq c_B c_eqa c_hd c_cells c_blkK c_box c_vec c_mp c_nck c_mks c_appn c_mkm c_mput c_mlk c_mrm c_take c_ld c_ldF c_cellsK c_st c_fld c_fldv c_ix c_ixp c_ixv c_ixs c_sub c_subs c_len c_lens c_src c_dst c_ow c_app c_ext c_mm c_conv c_str c_isn c_fill c_rows c_boxo c_frz c_frzO c_frzA c_frzV c_spec c_specO c_opsP c_opP c_runP c_specP c_Z c_qretP c_fz c_fn c_gv c_cond c_res1 c_resL c_ret c_qret c_ite c_unr c_nx c_bk c_cut c_is
attribute [local irreducible] dwp

def colonN (s : List UInt8) : Nat := (s.takeWhile (fun b => decide (b ≠ 58))).length
theorem tw_all {p : UInt8 → Bool} : ∀ (s : List UInt8), s.all p = true → s.takeWhile p = s
  | [], _ => rfl
  | x :: s, h => by
    simp only [List.all_cons, Bool.and_eq_true] at h
    rw [List.takeWhile_cons, h.1, tw_all s h.2]
    rfl
theorem colon_end (s : List UInt8) (h : s.all (fun b => decide (b ≠ 58)) = true) : colonN s = s.length := by
  unfold colonN
  rw [tw_all s h]
theorem colon_hit {s pre rest : List UInt8} (he : s = pre ++ 58 :: rest) (h : pre.all (fun b => decide (b ≠ 58)) = true) : colonN s = pre.length := by
  subst he
  unfold colonN
  rw [List.takeWhile_append_of_pos (by simpa using h)]
  simp
theorem u8_58 (x : UInt8) : ((x.toNat : Int) = 58) = (x = 58) := by
  apply propext
  constructor
  · intro h
    apply UInt8.toNat_inj.1
    exact_mod_cast h
  · rintro rfl
    rfl
def ac97 : AC := (.seq (.ops [⟨(some 2), none, (.mv (.c (.bool false)))⟩]) (.seq (.ops [⟨(some 3), none, (.mv (.t 0))⟩, ⟨(some 4), none, (.call false 110 [(.t 3), (.c (.fn 111 []))])⟩, ⟨(some 2), none, (.mv (.t 4))⟩]) .ret))
theorem tr97 : Tryz.f97.body.bind (trCode Tryz.prog) = some (strip ac97) := by kernel_rfl
theorem spec97 (s : List UInt8) : Spec Tryz.prog 97 [.fz (.str s)] (.fz (.bool (localB s))) := by
  refine spec_at (n := 4) (ars := [(.t 2)]) (ac := ac97) Tryz.func97 (by kernel_rfl) (by kernel_rfl) tr97 (by kernel_rfl) ?_
  unfold ac97
  iterate 30 (all_goals (try (first
    | ((with_reducible refine of_kSpec ?_); refine call_fz (specL110 s) rfl ?_)
    | (with_reducible refine ite_in (fun _ => ?_) (fun _ => ?_))
    | (with_reducible refine ⟨fun _ => ?_, fun _ => ?_⟩)
    | (with_reducible refine And.intro ?_ ?_)
    | (with_reducible intro _)
    | (with_reducible exact is_in _)
    | (simp -implicitDefEqProofs only [SD, SF, SL, e_nf, reduceCtorEq, implies_true, ↓reduceIte, Nat.reduceEqDiff, Nat.reduceAdd, Nat.reduceMul, Nat.reduceSub, Nat.reduceLeDiff, Nat.reduceLT, Int.reduceLT, Int.reduceLE, Int.reduceEq, Int.reduceToNat, Int.reduceAdd, Int.reduceSub, Int.reduceNeg, Int.reduceBEq, Int.reduceBNe, Nat.reduceBEq, Int.cast_ofNat_Int, decide_true, decide_false, ne_eq, eq_self_iff_true, beq_eq_false_iff_ne, bne_iff_ne, List.replicate, localB, *]))))
def ac98 : AC := (.seq (.ops [⟨(some 2), none, (.mv (.c (.bool false)))⟩]) (.seq (.ops [⟨(some 3), none, (.mv (.t 0))⟩, ⟨(some 4), none, (.call false 110 [(.t 3), (.c (.fn 112 []))])⟩, ⟨(some 5), none, (.mv (.t 4))⟩, ⟨(some 6), (some (5, true)), (.mv (.t 0))⟩, ⟨(some 7), (some (5, true)), (.ixs (.t 6) (.c (.int .i64 0)))⟩, ⟨(some 8), (some (5, true)), (.call false 113 [(.t 7)])⟩, ⟨(some 9), none, (.pick (.t 5) (.t 8) (.c (.bool false)))⟩, ⟨(some 10), none, (.mv (.t 9))⟩, ⟨(some 11), (some (10, true)), (.mv (.t 0))⟩, ⟨(some 12), (some (10, true)), (.mv (.t 0))⟩, ⟨(some 13), (some (10, true)), (.lens (.t 12))⟩, ⟨(some 14), (some (10, true)), (.bin .sub (.t 13) (.c (.int .i64 1)))⟩, ⟨(some 15), (some (10, true)), (.ixs (.t 11) (.t 14))⟩, ⟨(some 16), (some (10, true)), (.call false 113 [(.t 15)])⟩, ⟨(some 17), none, (.pick (.t 10) (.t 16) (.c (.bool false)))⟩, ⟨(some 2), none, (.mv (.t 17))⟩]) .ret))
theorem tr98 : Tryz.f98.body.bind (trCode Tryz.prog) = some (strip ac98) := by kernel_rfl
theorem spec98 (s : List UInt8) : Spec Tryz.prog 98 [.fz (.str s)] (.fz (.bool (serverB s))) := by
  refine spec_at (n := 17) (ars := [(.t 2)]) (ac := ac98) Tryz.func98 (by kernel_rfl) (by kernel_rfl) tr98 (by kernel_rfl) ?_
  unfold ac98
  by_cases h : 1 ≤ s.length ∧ s.length ≤ 32
  · have hw : IntKind.i64.wrap ((s.length : Int) - 1) = ((s.length - 1 : Nat) : Int) := by
      rw [wrap_in (by omega) (by omega)]
      omega
    have h0 : (0 : Int) < s.length := by omega
    have h1 : ((s.length - 1 : Nat) : Int) < s.length := by omega
    iterate 30 (all_goals (try (first
      | ((with_reducible refine of_kSpec ?_); refine call_fz (specS110 s) rfl ?_)
      | ((with_reducible refine of_kSpec ?_); refine call_fz (spec113 _) rfl ?_)
      | (with_reducible refine ite_in (fun _ => ?_) (fun _ => ?_))
      | (with_reducible refine ⟨fun _ => ?_, fun _ => ?_⟩)
      | (with_reducible refine And.intro ?_ ?_)
      | (with_reducible intro _)
      | (with_reducible exact is_in _)
      | (simp -implicitDefEqProofs only [SD, SF, SL, e_nf, reduceCtorEq, implies_true, ↓reduceIte, Nat.reduceEqDiff, Nat.reduceAdd, Nat.reduceMul, Nat.reduceSub, Nat.reduceLeDiff, Nat.reduceLT, Int.reduceLT, Int.reduceLE, Int.reduceEq, Int.reduceToNat, Int.reduceAdd, Int.reduceSub, Int.reduceNeg, Int.reduceBEq, Int.reduceBNe, Nat.reduceBEq, Int.cast_ofNat_Int, decide_true, decide_false, ne_eq, eq_self_iff_true, beq_eq_false_iff_ne, bne_iff_ne, List.replicate, *]))))
    all_goals (first | (simp [serverB, *]; done) | grind [serverB])
  · have hb : lenB s = false := by simp only [lenB, decide_eq_false_iff_not]; exact h
    iterate 30 (all_goals (try (first
      | ((with_reducible refine of_kSpec ?_); refine call_fz (specS110 s) rfl ?_)
      | ((with_reducible refine of_kSpec ?_); refine call_fz (spec113 _) rfl ?_)
      | (with_reducible refine ite_in (fun _ => ?_) (fun _ => ?_))
      | (with_reducible refine ⟨fun _ => ?_, fun _ => ?_⟩)
      | (with_reducible refine And.intro ?_ ?_)
      | (with_reducible intro _)
      | (with_reducible exact is_in _)
      | (simp -implicitDefEqProofs only [SD, SF, SL, e_nf, reduceCtorEq, implies_true, ↓reduceIte, Nat.reduceEqDiff, Nat.reduceAdd, Nat.reduceMul, Nat.reduceSub, Nat.reduceLeDiff, Nat.reduceLT, Int.reduceLT, Int.reduceLE, Int.reduceEq, Int.reduceToNat, Int.reduceAdd, Int.reduceSub, Int.reduceNeg, Int.reduceBEq, Int.reduceBNe, Nat.reduceBEq, Int.cast_ofNat_Int, decide_true, decide_false, ne_eq, eq_self_iff_true, beq_eq_false_iff_ne, bne_iff_ne, List.replicate, Bool.false_and, *]))))
    all_goals (simp_all [serverB])

def ac50 : AC := (.seq (.ops [⟨(some 2), none, (.mv (.c (.int .i64 0)))⟩]) (.seq (.ops [⟨(some 3), none, (.mv (.c (.int .i64 0)))⟩]) (.seq (.block 0 (.loop (.seq (.seq (.ops [⟨(some 4), none, (.mv (.t 3))⟩, ⟨(some 5), none, (.mv (.t 0))⟩, ⟨(some 6), none, (.lens (.t 5))⟩, ⟨(some 7), none, (.bin .lss (.t 4) (.t 6))⟩, ⟨(some 8), none, (.mv (.t 7))⟩, ⟨(some 9), (some (8, true)), (.mv (.t 0))⟩, ⟨(some 10), (some (8, true)), (.mv (.t 3))⟩, ⟨(some 11), (some (8, true)), (.ixs (.t 9) (.t 10))⟩, ⟨(some 12), (some (8, true)), (.bin .neq (.t 11) (.c (.int .u8 58)))⟩, ⟨(some 13), none, (.pick (.t 8) (.t 12) (.c (.bool false)))⟩]) (.cond (.t 13) .skip (.exit 0))) (.block 1 (.ops [⟨(some 14), none, (.mv (.t 3))⟩, ⟨(some 15), none, (.bin .add (.t 14) (.c (.int .i64 1)))⟩, ⟨(some 3), none, (.mv (.t 15))⟩]))))) (.seq (.ops [⟨(some 16), none, (.mv (.t 3))⟩, ⟨(some 2), none, (.mv (.t 16))⟩]) .ret))))
theorem tr50 : Tryz.f50.body.bind (trCode Tryz.prog) = some (strip ac50) := by kernel_rfl
theorem spec50 (s : List UInt8) : Spec Tryz.prog 50 [.fz (.str s)] (.fz (.int .i64 (colonN s))) := by
  refine spec_at (n := 16) (ars := [(.t 2)]) (ac := ac50) Tryz.func50 (by kernel_rfl) (by kernel_rfl) tr50 (by kernel_rfl) ?_
  unfold ac50
  simp -implicitDefEqProofs only [SD, SF, SL, e_nf, reduceCtorEq, implies_true, ↓reduceIte, Nat.reduceEqDiff, Nat.reduceAdd, Nat.reduceMul, Nat.reduceSub, Nat.reduceLeDiff, Nat.reduceLT, Int.reduceLT, Int.reduceLE, Int.reduceEq, Int.reduceToNat, Int.reduceAdd, Int.reduceSub, Int.reduceNeg, Int.reduceBEq, Int.reduceBNe, Nat.reduceBEq, Int.cast_ofNat_Int, decide_true, decide_false, ne_eq, eq_self_iff_true, beq_eq_false_iff_ne, bne_iff_ne, List.replicate]
  refine loop_q (X := List UInt8 × List UInt8 × Unit) (fun n x => s = x.1 ++ x.2.1 ∧ n = x.2.1.length ∧ (x.1.all (fun b => decide (b ≠ 58)) = true)) (fun x => [(3, .int .i64 x.1.length)]) (fun _ => []) [4, 5, 6, 7, 8, 9, 10, 11, 12, 13, 14, 15] []  (s).length ([], s, ()) ⟨rfl, rfl, by first | rfl | exact all_snoc hI (by simp_all [u8_58])⟩ ?_ ?_
  · simp -implicitDefEqProofs only [SD, SF, SL, e_nf, reduceCtorEq, implies_true, ↓reduceIte, Nat.reduceEqDiff, Nat.reduceAdd, Nat.reduceMul, Nat.reduceSub, Nat.reduceLeDiff, Nat.reduceLT, Int.reduceLT, Int.reduceLE, Int.reduceEq, Int.reduceToNat, Int.reduceAdd, Int.reduceSub, Int.reduceNeg, Int.reduceBEq, Int.reduceBNe, Nat.reduceBEq, Int.cast_ofNat_Int, decide_true, decide_false, ne_eq, eq_self_iff_true, beq_eq_false_iff_ne, bne_iff_ne, List.replicate, u8_58] <;> simp
  · rintro n ⟨pre, rest, a⟩ ⟨he, rfl, hI⟩
    dsimp only at he hI
    cases rest with
    | nil =>
      obtain rfl : s = pre := by simpa using he
      clear he
      have hlt : ¬ (((s).length : Int) < ((s).length : Int)) := Int.lt_irrefl _
      iterate 30 (all_goals (try (first
        | (with_reducible refine ite_in (fun _ => ?_) (fun _ => ?_))
        | (with_reducible refine ⟨fun _ => ?_, fun _ => ?_⟩)
        | (with_reducible refine And.intro ?_ ?_)
        | (with_reducible intro _)
        | (with_reducible exact is_in _)
        | ((with_reducible refine eq_in ?_); (first | rw [colon_end _ hI] | (have hq : x = 58 := hx.symm.trans (by assumption); subst hq; rw [colon_hit he.out hI])); done)
        | (simp -implicitDefEqProofs only [SD, SF, SL, e_nf, reduceCtorEq, implies_true, ↓reduceIte, Nat.reduceEqDiff, Nat.reduceAdd, Nat.reduceMul, Nat.reduceSub, Nat.reduceLeDiff, Nat.reduceLT, Int.reduceLT, Int.reduceLE, Int.reduceEq, Int.reduceToNat, Int.reduceAdd, Int.reduceSub, Int.reduceNeg, Int.reduceBEq, Int.reduceBNe, Nat.reduceBEq, Int.cast_ofNat_Int, decide_true, decide_false, ne_eq, eq_self_iff_true, beq_eq_false_iff_ne, bne_iff_ne, List.replicate, u8_58, *]))))

    | cons x rest =>
      have hlt := cut_lt he
      have hx := cutS he
      simp -implicitDefEqProofs only [SD, SF, SL, e_nf, reduceCtorEq, implies_true, ↓reduceIte, Nat.reduceEqDiff, Nat.reduceAdd, Nat.reduceMul, Nat.reduceSub, Nat.reduceLeDiff, Nat.reduceLT, Int.reduceLT, Int.reduceLE, Int.reduceEq, Int.reduceToNat, Int.reduceAdd, Int.reduceSub, Int.reduceNeg, Int.reduceBEq, Int.reduceBNe, Nat.reduceBEq, Int.cast_ofNat_Int, decide_true, decide_false, ne_eq, eq_self_iff_true, beq_eq_false_iff_ne, bne_iff_ne, List.replicate, u8_58, hlt]
      intro hl
      have hw := wrap_len (n := pre.length) (m := (s).length) (cut_lt' he) (by simpa using hl)
      replace he := Hd.mk he
      iterate 30 (all_goals (try (first
        | ((with_reducible refine back_in rest.length [4, 5, 6, 7, 8, 9, 10, 11, 12, 13, 14, 15] [] (pre ++ [x], rest, a) ?_ ⟨?_, ?_, ?_⟩ ?_)
           · simp
           · exact cut_snoc he.out
           · rfl
           · first | rfl | exact all_snoc hI (by simp_all [u8_58])
           · first | (simp -implicitDefEqProofs only [SD, SF, SL, e_nf, reduceCtorEq, implies_true, ↓reduceIte, Nat.reduceEqDiff, Nat.reduceAdd, Nat.reduceMul, Nat.reduceSub, Nat.reduceLeDiff, Nat.reduceLT, Int.reduceLT, Int.reduceLE, Int.reduceEq, Int.reduceToNat, Int.reduceAdd, Int.reduceSub, Int.reduceNeg, Int.reduceBEq, Int.reduceBNe, Nat.reduceBEq, Int.cast_ofNat_Int, decide_true, decide_false, ne_eq, eq_self_iff_true, beq_eq_false_iff_ne, bne_iff_ne, List.replicate, u8_58] <;> simp <;> done) | (simp -implicitDefEqProofs only [SD, SF, SL, e_nf, reduceCtorEq, implies_true, ↓reduceIte, Nat.reduceEqDiff, Nat.reduceAdd, Nat.reduceMul, Nat.reduceSub, Nat.reduceLeDiff, Nat.reduceLT, Int.reduceLT, Int.reduceLE, Int.reduceEq, Int.reduceToNat, Int.reduceAdd, Int.reduceSub, Int.reduceNeg, Int.reduceBEq, Int.reduceBNe, Nat.reduceBEq, Int.cast_ofNat_Int, decide_true, decide_false, ne_eq, eq_self_iff_true, beq_eq_false_iff_ne, bne_iff_ne, List.replicate, u8_58, *] <;> simp_all <;> done))
        | (with_reducible refine ite_in (fun _ => ?_) (fun _ => ?_))
        | (with_reducible refine ⟨fun _ => ?_, fun _ => ?_⟩)
        | (with_reducible refine And.intro ?_ ?_)
        | (with_reducible intro _)
        | (with_reducible exact is_in _)
        | ((with_reducible refine eq_in ?_); (first | rw [colon_end _ hI] | (have hq : x = 58 := hx.symm.trans (by assumption); subst hq; rw [colon_hit he.out hI])); done)
        | (simp -implicitDefEqProofs only [SD, SF, SL, e_nf, reduceCtorEq, implies_true, ↓reduceIte, Nat.reduceEqDiff, Nat.reduceAdd, Nat.reduceMul, Nat.reduceSub, Nat.reduceLeDiff, Nat.reduceLT, Int.reduceLT, Int.reduceLE, Int.reduceEq, Int.reduceToNat, Int.reduceAdd, Int.reduceSub, Int.reduceNeg, Int.reduceBEq, Int.reduceBNe, Nat.reduceBEq, Int.cast_ofNat_Int, decide_true, decide_false, ne_eq, eq_self_iff_true, beq_eq_false_iff_ne, bne_iff_ne, List.replicate, u8_58, *]))))
def ac74 : AC := (.seq (.ops [⟨(some 2), none, (.mv (.c (.bool false)))⟩]) (.seq (.seq (.ops [⟨(some 3), none, (.mv (.c (.int .i64 0)))⟩]) (.block 0 (.loop (.seq (.seq (.ops [⟨(some 4), none, (.mv (.t 3))⟩, ⟨(some 5), none, (.mv (.t 0))⟩, ⟨(some 6), none, (.lens (.t 5))⟩, ⟨(some 7), none, (.bin .lss (.t 4) (.t 6))⟩]) (.cond (.t 7) .skip (.exit 0))) (.seq (.block 1 (.seq (.ops [⟨(some 10), none, (.mv (.t 0))⟩, ⟨(some 11), none, (.mv (.t 3))⟩, ⟨(some 12), none, (.ixs (.t 10) (.t 11))⟩, ⟨(some 13), none, (.call false 94 [(.t 12)])⟩, ⟨(some 14), none, (.nt (.t 13))⟩, ⟨(some 15), none, (.mv (.t 14))⟩, ⟨(some 16), (some (15, true)), (.mv (.t 0))⟩, ⟨(some 17), (some (15, true)), (.mv (.t 3))⟩, ⟨(some 18), (some (15, true)), (.ixs (.t 16) (.t 17))⟩, ⟨(some 19), (some (15, true)), (.bin .neq (.t 18) (.c (.int .u8 95)))⟩, ⟨(some 20), none, (.pick (.t 15) (.t 19) (.c (.bool false)))⟩, ⟨(some 21), none, (.mv (.t 20))⟩, ⟨(some 22), (some (21, true)), (.mv (.t 0))⟩, ⟨(some 23), (some (21, true)), (.mv (.t 3))⟩, ⟨(some 24), (some (21, true)), (.ixs (.t 22) (.t 23))⟩, ⟨(some 25), (some (21, true)), (.bin .neq (.t 24) (.c (.int .u8 46)))⟩, ⟨(some 26), none, (.pick (.t 21) (.t 25) (.c (.bool false)))⟩, ⟨(some 27), none, (.mv (.t 26))⟩, ⟨(some 28), (some (27, true)), (.mv (.t 0))⟩, ⟨(some 29), (some (27, true)), (.mv (.t 3))⟩, ⟨(some 30), (some (27, true)), (.ixs (.t 28) (.t 29))⟩, ⟨(some 31), (some (27, true)), (.bin .neq (.t 30) (.c (.int .u8 45)))⟩, ⟨(some 32), none, (.pick (.t 27) (.t 31) (.c (.bool false)))⟩, ⟨(some 33), none, (.mv (.t 32))⟩, ⟨(some 34), (some (33, true)), (.mv (.t 0))⟩, ⟨(some 35), (some (33, true)), (.mv (.t 3))⟩, ⟨(some 36), (some (33, true)), (.ixs (.t 34) (.t 35))⟩, ⟨(some 37), (some (33, true)), (.bin .neq (.t 36) (.c (.int .u8 61)))⟩, ⟨(some 38), none, (.pick (.t 33) (.t 37) (.c (.bool false)))⟩]) (.cond (.t 38) (.seq (.ops [⟨(some 2), none, (.mv (.c (.bool false)))⟩]) .ret) .skip))) (.ops [⟨(some 8), none, (.mv (.t 3))⟩, ⟨(some 9), none, (.bin .add (.t 8) (.c (.int .i64 1)))⟩, ⟨(some 3), none, (.mv (.t 9))⟩])))))) (.seq (.ops [⟨(some 39), none, (.mv (.t 0))⟩, ⟨(some 40), none, (.lens (.t 39))⟩, ⟨(some 41), none, (.bin .geq (.t 40) (.c (.int .i64 1)))⟩, ⟨(some 42), none, (.mv (.t 41))⟩, ⟨(some 43), (some (42, true)), (.mv (.t 0))⟩, ⟨(some 44), (some (42, true)), (.lens (.t 43))⟩, ⟨(some 45), (some (42, true)), (.bin .leq (.t 44) (.c (.int .i64 32)))⟩, ⟨(some 46), none, (.pick (.t 42) (.t 45) (.c (.bool false)))⟩, ⟨(some 2), none, (.mv (.t 46))⟩]) .ret)))
theorem tr74 : Tryz.f74.body.bind (trCode Tryz.prog) = some (strip ac74) := by kernel_rfl
theorem spec74 (s : List UInt8) : Spec Tryz.prog 74 [.fz (.str s)] (.fz (.bool (localB s))) := by
  refine spec_at (n := 46) (ars := [(.t 2)]) (ac := ac74) Tryz.func74 (by kernel_rfl) (by kernel_rfl) tr74 (by kernel_rfl) ?_
  unfold ac74
  simp -implicitDefEqProofs only [SD, SF, SL, e_nf, reduceCtorEq, implies_true, ↓reduceIte, Nat.reduceEqDiff, Nat.reduceAdd, Nat.reduceMul, Nat.reduceSub, Nat.reduceLeDiff, Nat.reduceLT, Int.reduceLT, Int.reduceLE, Int.reduceEq, Int.reduceToNat, Int.reduceAdd, Int.reduceSub, Int.reduceNeg, Int.reduceBEq, Int.reduceBNe, Nat.reduceBEq, Int.cast_ofNat_Int, decide_true, decide_false, ne_eq, eq_self_iff_true, beq_eq_false_iff_ne, bne_iff_ne, List.replicate]
  refine loop_q (X := List UInt8 × List UInt8 × Unit) (fun n x => s = x.1 ++ x.2.1 ∧ n = x.2.1.length ∧ (x.1.all okLc = true)) (fun x => [(3, .int .i64 x.1.length)]) (fun _ => []) [2, 4, 5, 6, 7, 8, 9, 10, 11, 12, 13, 14, 15, 16, 17, 18, 19, 20, 21, 22, 23, 24, 25, 26, 27, 28, 29, 30, 31, 32, 33, 34, 35, 36, 37, 38] []  (s).length ([], s, ()) ⟨rfl, rfl, by first | rfl | exact all_snoc hI (by grind [okLc, locI])⟩ ?_ ?_
  · simp -implicitDefEqProofs only [SD, SF, SL, e_nf, reduceCtorEq, implies_true, ↓reduceIte, Nat.reduceEqDiff, Nat.reduceAdd, Nat.reduceMul, Nat.reduceSub, Nat.reduceLeDiff, Nat.reduceLT, Int.reduceLT, Int.reduceLE, Int.reduceEq, Int.reduceToNat, Int.reduceAdd, Int.reduceSub, Int.reduceNeg, Int.reduceBEq, Int.reduceBNe, Nat.reduceBEq, Int.cast_ofNat_Int, decide_true, decide_false, ne_eq, eq_self_iff_true, beq_eq_false_iff_ne, bne_iff_ne, List.replicate] <;> simp
  · rintro n ⟨pre, rest, a⟩ ⟨he, rfl, hI⟩
    dsimp only at he hI
    cases rest with
    | nil =>
      obtain rfl : s = pre := by simpa using he
      clear he
      have hlt : ¬ (((s).length : Int) < ((s).length : Int)) := Int.lt_irrefl _
      iterate 30 (all_goals (try (first
        | ((with_reducible refine of_kSpec ?_); refine call_fz (spec94 _) rfl ?_)
        | (with_reducible refine ite_in (fun _ => ?_) (fun _ => ?_))
        | (with_reducible refine ⟨fun _ => ?_, fun _ => ?_⟩)
        | (with_reducible refine And.intro ?_ ?_)
        | (with_reducible intro _)
        | (with_reducible exact is_in _)
        | ((with_reducible refine eq_in ?_); (first | (grind [localB, lenB]; done) | (have hq := all_cut (p := okLc) he.out (by grind [okLc, locI]); grind [localB])); done)
        | (simp -implicitDefEqProofs only [SD, SF, SL, e_nf, reduceCtorEq, implies_true, ↓reduceIte, Nat.reduceEqDiff, Nat.reduceAdd, Nat.reduceMul, Nat.reduceSub, Nat.reduceLeDiff, Nat.reduceLT, Int.reduceLT, Int.reduceLE, Int.reduceEq, Int.reduceToNat, Int.reduceAdd, Int.reduceSub, Int.reduceNeg, Int.reduceBEq, Int.reduceBNe, Nat.reduceBEq, Int.cast_ofNat_Int, decide_true, decide_false, ne_eq, eq_self_iff_true, beq_eq_false_iff_ne, bne_iff_ne, List.replicate, *]))))

    | cons x rest =>
      have hlt := cut_lt he
      have hx := cutS he
      simp -implicitDefEqProofs only [SD, SF, SL, e_nf, reduceCtorEq, implies_true, ↓reduceIte, Nat.reduceEqDiff, Nat.reduceAdd, Nat.reduceMul, Nat.reduceSub, Nat.reduceLeDiff, Nat.reduceLT, Int.reduceLT, Int.reduceLE, Int.reduceEq, Int.reduceToNat, Int.reduceAdd, Int.reduceSub, Int.reduceNeg, Int.reduceBEq, Int.reduceBNe, Nat.reduceBEq, Int.cast_ofNat_Int, decide_true, decide_false, ne_eq, eq_self_iff_true, beq_eq_false_iff_ne, bne_iff_ne, List.replicate, hlt]
      intro hl
      have hw := wrap_len (n := pre.length) (m := (s).length) (cut_lt' he) (by simpa using hl)
      replace he := Hd.mk he
      iterate 30 (all_goals (try (first
        | ((with_reducible refine back_in rest.length [2, 4, 5, 6, 7, 8, 9, 10, 11, 12, 13, 14, 15, 16, 17, 18, 19, 20, 21, 22, 23, 24, 25, 26, 27, 28, 29, 30, 31, 32, 33, 34, 35, 36, 37, 38] [] (pre ++ [x], rest, a) ?_ ⟨?_, ?_, ?_⟩ ?_)
           · simp
           · exact cut_snoc he.out
           · rfl
           · first | rfl | exact all_snoc hI (by grind [okLc, locI])
           · first | (simp -implicitDefEqProofs only [SD, SF, SL, e_nf, reduceCtorEq, implies_true, ↓reduceIte, Nat.reduceEqDiff, Nat.reduceAdd, Nat.reduceMul, Nat.reduceSub, Nat.reduceLeDiff, Nat.reduceLT, Int.reduceLT, Int.reduceLE, Int.reduceEq, Int.reduceToNat, Int.reduceAdd, Int.reduceSub, Int.reduceNeg, Int.reduceBEq, Int.reduceBNe, Nat.reduceBEq, Int.cast_ofNat_Int, decide_true, decide_false, ne_eq, eq_self_iff_true, beq_eq_false_iff_ne, bne_iff_ne, List.replicate] <;> simp <;> done) | (simp -implicitDefEqProofs only [SD, SF, SL, e_nf, reduceCtorEq, implies_true, ↓reduceIte, Nat.reduceEqDiff, Nat.reduceAdd, Nat.reduceMul, Nat.reduceSub, Nat.reduceLeDiff, Nat.reduceLT, Int.reduceLT, Int.reduceLE, Int.reduceEq, Int.reduceToNat, Int.reduceAdd, Int.reduceSub, Int.reduceNeg, Int.reduceBEq, Int.reduceBNe, Nat.reduceBEq, Int.cast_ofNat_Int, decide_true, decide_false, ne_eq, eq_self_iff_true, beq_eq_false_iff_ne, bne_iff_ne, List.replicate, *] <;> simp_all <;> done))
        | ((with_reducible refine of_kSpec ?_); refine call_fz (spec94 _) rfl ?_)
        | (with_reducible refine ite_in (fun _ => ?_) (fun _ => ?_))
        | (with_reducible refine ⟨fun _ => ?_, fun _ => ?_⟩)
        | (with_reducible refine And.intro ?_ ?_)
        | (with_reducible intro _)
        | (with_reducible exact is_in _)
        | ((with_reducible refine eq_in ?_); (first | (grind [localB, lenB]; done) | (have hq := all_cut (p := okLc) he.out (by grind [okLc, locI]); grind [localB])); done)
        | (simp -implicitDefEqProofs only [SD, SF, SL, e_nf, reduceCtorEq, implies_true, ↓reduceIte, Nat.reduceEqDiff, Nat.reduceAdd, Nat.reduceMul, Nat.reduceSub, Nat.reduceLeDiff, Nat.reduceLT, Int.reduceLT, Int.reduceLE, Int.reduceEq, Int.reduceToNat, Int.reduceAdd, Int.reduceSub, Int.reduceNeg, Int.reduceBEq, Int.reduceBNe, Nat.reduceBEq, Int.cast_ofNat_Int, decide_true, decide_false, ne_eq, eq_self_iff_true, beq_eq_false_iff_ne, bne_iff_ne, List.replicate, *]))))
def ac75 : AC := (.seq (.ops [⟨(some 2), none, (.mv (.c (.int .i64 0)))⟩]) (.seq (.seq (.ops [⟨(some 4), none, (.mv (.t 0))⟩, ⟨(some 5), none, (.lens (.t 4))⟩, ⟨(some 6), none, (.bin .lss (.t 5) (.c (.int .i64 1)))⟩, ⟨(some 7), none, (.mv (.t 6))⟩, ⟨(some 8), (some (7, false)), (.mv (.t 0))⟩, ⟨(some 9), (some (7, false)), (.lens (.t 8))⟩, ⟨(some 10), (some (7, false)), (.bin .gtr (.t 9) (.c (.int .i64 32)))⟩, ⟨(some 11), none, (.pick (.t 7) (.c (.bool true)) (.t 10))⟩, ⟨(some 12), none, (.mv (.t 11))⟩, ⟨(some 13), (some (12, false)), (.mv (.t 0))⟩, ⟨(some 14), (some (12, false)), (.ixs (.t 13) (.c (.int .i64 0)))⟩, ⟨(some 15), (some (12, false)), (.call false 94 [(.t 14)])⟩, ⟨(some 16), (some (12, false)), (.nt (.t 15))⟩, ⟨(some 17), none, (.pick (.t 12) (.c (.bool true)) (.t 16))⟩, ⟨(some 18), none, (.mv (.t 17))⟩, ⟨(some 19), (some (18, false)), (.mv (.t 0))⟩, ⟨(some 20), (some (18, false)), (.mv (.t 0))⟩, ⟨(some 21), (some (18, false)), (.lens (.t 20))⟩, ⟨(some 22), (some (18, false)), (.bin .sub (.t 21) (.c (.int .i64 1)))⟩, ⟨(some 23), (some (18, false)), (.ixs (.t 19) (.t 22))⟩, ⟨(some 24), (some (18, false)), (.call false 94 [(.t 23)])⟩, ⟨(some 25), (some (18, false)), (.nt (.t 24))⟩, ⟨(some 26), none, (.pick (.t 18) (.c (.bool true)) (.t 25))⟩]) (.cond (.t 26) (.seq (.ops [⟨(some 2), none, (.mv (.c (.int .i64 3)))⟩]) .ret) .skip)) (.seq (.seq (.ops [⟨(some 3), none, (.mv (.c (.int .i64 0)))⟩]) (.block 0 (.loop (.seq (.seq (.ops [⟨(some 27), none, (.mv (.t 3))⟩, ⟨(some 28), none, (.mv (.t 0))⟩, ⟨(some 29), none, (.lens (.t 28))⟩, ⟨(some 30), none, (.bin .lss (.t 27) (.t 29))⟩]) (.cond (.t 30) .skip (.exit 0))) (.seq (.block 1 (.seq (.ops [⟨(some 33), none, (.mv (.t 0))⟩, ⟨(some 34), none, (.mv (.t 3))⟩, ⟨(some 35), none, (.ixs (.t 33) (.t 34))⟩, ⟨(some 36), none, (.call false 94 [(.t 35)])⟩, ⟨(some 37), none, (.nt (.t 36))⟩, ⟨(some 38), none, (.mv (.t 37))⟩, ⟨(some 39), (some (38, true)), (.mv (.t 0))⟩, ⟨(some 40), (some (38, true)), (.mv (.t 3))⟩, ⟨(some 41), (some (38, true)), (.ixs (.t 39) (.t 40))⟩, ⟨(some 42), (some (38, true)), (.bin .neq (.t 41) (.c (.int .u8 46)))⟩, ⟨(some 43), none, (.pick (.t 38) (.t 42) (.c (.bool false)))⟩, ⟨(some 44), none, (.mv (.t 43))⟩, ⟨(some 45), (some (44, true)), (.mv (.t 0))⟩, ⟨(some 46), (some (44, true)), (.mv (.t 3))⟩, ⟨(some 47), (some (44, true)), (.ixs (.t 45) (.t 46))⟩, ⟨(some 48), (some (44, true)), (.bin .neq (.t 47) (.c (.int .u8 45)))⟩, ⟨(some 49), none, (.pick (.t 44) (.t 48) (.c (.bool false)))⟩]) (.cond (.t 49) (.seq (.ops [⟨(some 2), none, (.mv (.c (.int .i64 3)))⟩]) .ret) .skip))) (.ops [⟨(some 31), none, (.mv (.t 3))⟩, ⟨(some 32), none, (.bin .add (.t 31) (.c (.int .i64 1)))⟩, ⟨(some 3), none, (.mv (.t 32))⟩])))))) (.seq (.ops [⟨(some 2), none, (.mv (.c (.int .i64 0)))⟩]) .ret))))
theorem tr75 : Tryz.f75.body.bind (trCode Tryz.prog) = some (strip ac75) := by kernel_rfl
theorem spec75 (s : List UInt8) : Spec Tryz.prog 75 [.fz (.str s)] (.fz (.int .i64 (if serverB s = true then 0 else 3))) := by
  refine spec_at (n := 49) (ars := [(.t 2)]) (ac := ac75) Tryz.func75 (by kernel_rfl) (by kernel_rfl) tr75 (by kernel_rfl) ?_
  unfold ac75
  by_cases h : 1 ≤ s.length ∧ s.length ≤ 32
  · have hw : IntKind.i64.wrap ((s.length : Int) - 1) = ((s.length - 1 : Nat) : Int) := by
      rw [wrap_in (by omega) (by omega)]
      omega
    have h0 : (0 : Int) < s.length := by omega
    have h1 : ((s.length - 1 : Nat) : Int) < s.length := by omega
    have hb : lenB s = true := by simp only [lenB, decide_eq_true_eq]; exact h
    cases hz1 : letterI (s.getD 0 0).toNat <;> cases hz2 : letterI (s.getD (s.length - 1) 0).toNat
    case pos.true.true =>
      skip
      iterate 30 (all_goals (try (first
        | ((with_reducible refine of_kSpec ?_); refine call_fz (spec94 _) rfl ?_)
        | (with_reducible refine ite_in (fun _ => ?_) (fun _ => ?_))
        | (with_reducible refine ⟨fun _ => ?_, fun _ => ?_⟩)
        | (with_reducible refine And.intro ?_ ?_)
        | (with_reducible intro _)
        | (with_reducible exact is_in _)
        | ((with_reducible refine eq_in ?_); (exfalso; first | omega | (simp_all; done)); done)
        | (simp -implicitDefEqProofs only [SD, SF, SL, e_nf, reduceCtorEq, implies_true, ↓reduceIte, Nat.reduceEqDiff, Nat.reduceAdd, Nat.reduceMul, Nat.reduceSub, Nat.reduceLeDiff, Nat.reduceLT, Int.reduceLT, Int.reduceLE, Int.reduceEq, Int.reduceToNat, Int.reduceAdd, Int.reduceSub, Int.reduceNeg, Int.reduceBEq, Int.reduceBNe, Nat.reduceBEq, Int.cast_ofNat_Int, decide_true, decide_false, ne_eq, eq_self_iff_true, beq_eq_false_iff_ne, bne_iff_ne, List.replicate, *]))))
      refine loop_q (X := List UInt8 × List UInt8 × Unit) (fun n x => s = x.1 ++ x.2.1 ∧ n = x.2.1.length ∧ (x.1.all okSc = true)) (fun x => [(3, .int .i64 x.1.length)]) (fun _ => []) [2, 27, 28, 29, 30, 31, 32, 33, 34, 35, 36, 37, 38, 39, 40, 41, 42, 43, 44, 45, 46, 47, 48, 49] []  (s).length ([], s, ()) ⟨rfl, rfl, by first | rfl | exact all_snoc hI (by grind [okSc, srvI])⟩ ?_ ?_
      · simp -implicitDefEqProofs only [SD, SF, SL, e_nf, reduceCtorEq, implies_true, ↓reduceIte, Nat.reduceEqDiff, Nat.reduceAdd, Nat.reduceMul, Nat.reduceSub, Nat.reduceLeDiff, Nat.reduceLT, Int.reduceLT, Int.reduceLE, Int.reduceEq, Int.reduceToNat, Int.reduceAdd, Int.reduceSub, Int.reduceNeg, Int.reduceBEq, Int.reduceBNe, Nat.reduceBEq, Int.cast_ofNat_Int, decide_true, decide_false, ne_eq, eq_self_iff_true, beq_eq_false_iff_ne, bne_iff_ne, List.replicate] <;> simp
      · rintro n ⟨pre, rest, a⟩ ⟨he, rfl, hI⟩
        dsimp only at he hI
        cases rest with
        | nil =>
          obtain rfl : s = pre := by simpa using he
          clear he
          have hlt : ¬ (((s).length : Int) < ((s).length : Int)) := Int.lt_irrefl _
          iterate 30 (all_goals (try (first
            | ((with_reducible refine of_kSpec ?_); refine call_fz (spec94 _) rfl ?_)
            | (with_reducible refine ite_in (fun _ => ?_) (fun _ => ?_))
            | (with_reducible refine ⟨fun _ => ?_, fun _ => ?_⟩)
            | (with_reducible refine And.intro ?_ ?_)
            | (with_reducible intro _)
            | (with_reducible exact is_in _)
            | ((with_reducible refine eq_in ?_); (first | (grind [serverB, lenB]; done) | (have hq := all_cut (p := okSc) he.out (by grind [okSc, srvI]); grind [serverB])); done)
            | (simp -implicitDefEqProofs only [SD, SF, SL, e_nf, reduceCtorEq, implies_true, ↓reduceIte, Nat.reduceEqDiff, Nat.reduceAdd, Nat.reduceMul, Nat.reduceSub, Nat.reduceLeDiff, Nat.reduceLT, Int.reduceLT, Int.reduceLE, Int.reduceEq, Int.reduceToNat, Int.reduceAdd, Int.reduceSub, Int.reduceNeg, Int.reduceBEq, Int.reduceBNe, Nat.reduceBEq, Int.cast_ofNat_Int, decide_true, decide_false, ne_eq, eq_self_iff_true, beq_eq_false_iff_ne, bne_iff_ne, List.replicate, *]))))

        | cons x rest =>
          have hlt := cut_lt he
          have hx := cutS he
          simp -implicitDefEqProofs only [SD, SF, SL, e_nf, reduceCtorEq, implies_true, ↓reduceIte, Nat.reduceEqDiff, Nat.reduceAdd, Nat.reduceMul, Nat.reduceSub, Nat.reduceLeDiff, Nat.reduceLT, Int.reduceLT, Int.reduceLE, Int.reduceEq, Int.reduceToNat, Int.reduceAdd, Int.reduceSub, Int.reduceNeg, Int.reduceBEq, Int.reduceBNe, Nat.reduceBEq, Int.cast_ofNat_Int, decide_true, decide_false, ne_eq, eq_self_iff_true, beq_eq_false_iff_ne, bne_iff_ne, List.replicate, hlt]
          intro hl
          have hw := wrap_len (n := pre.length) (m := (s).length) (cut_lt' he) (by simpa using hl)
          replace he := Hd.mk he
          iterate 30 (all_goals (try (first
            | ((with_reducible refine back_in rest.length [2, 27, 28, 29, 30, 31, 32, 33, 34, 35, 36, 37, 38, 39, 40, 41, 42, 43, 44, 45, 46, 47, 48, 49] [] (pre ++ [x], rest, a) ?_ ⟨?_, ?_, ?_⟩ ?_)
               · simp
               · exact cut_snoc he.out
               · rfl
               · first | rfl | exact all_snoc hI (by grind [okSc, srvI])
               · first | (simp -implicitDefEqProofs only [SD, SF, SL, e_nf, reduceCtorEq, implies_true, ↓reduceIte, Nat.reduceEqDiff, Nat.reduceAdd, Nat.reduceMul, Nat.reduceSub, Nat.reduceLeDiff, Nat.reduceLT, Int.reduceLT, Int.reduceLE, Int.reduceEq, Int.reduceToNat, Int.reduceAdd, Int.reduceSub, Int.reduceNeg, Int.reduceBEq, Int.reduceBNe, Nat.reduceBEq, Int.cast_ofNat_Int, decide_true, decide_false, ne_eq, eq_self_iff_true, beq_eq_false_iff_ne, bne_iff_ne, List.replicate] <;> simp <;> done) | (simp -implicitDefEqProofs only [SD, SF, SL, e_nf, reduceCtorEq, implies_true, ↓reduceIte, Nat.reduceEqDiff, Nat.reduceAdd, Nat.reduceMul, Nat.reduceSub, Nat.reduceLeDiff, Nat.reduceLT, Int.reduceLT, Int.reduceLE, Int.reduceEq, Int.reduceToNat, Int.reduceAdd, Int.reduceSub, Int.reduceNeg, Int.reduceBEq, Int.reduceBNe, Nat.reduceBEq, Int.cast_ofNat_Int, decide_true, decide_false, ne_eq, eq_self_iff_true, beq_eq_false_iff_ne, bne_iff_ne, List.replicate, *] <;> simp_all <;> done))
            | ((with_reducible refine of_kSpec ?_); refine call_fz (spec94 _) rfl ?_)
            | (with_reducible refine ite_in (fun _ => ?_) (fun _ => ?_))
            | (with_reducible refine ⟨fun _ => ?_, fun _ => ?_⟩)
            | (with_reducible refine And.intro ?_ ?_)
            | (with_reducible intro _)
            | (with_reducible exact is_in _)
            | ((with_reducible refine eq_in ?_); (first | (grind [serverB, lenB]; done) | (have hq := all_cut (p := okSc) he.out (by grind [okSc, srvI]); grind [serverB])); done)
            | (simp -implicitDefEqProofs only [SD, SF, SL, e_nf, reduceCtorEq, implies_true, ↓reduceIte, Nat.reduceEqDiff, Nat.reduceAdd, Nat.reduceMul, Nat.reduceSub, Nat.reduceLeDiff, Nat.reduceLT, Int.reduceLT, Int.reduceLE, Int.reduceEq, Int.reduceToNat, Int.reduceAdd, Int.reduceSub, Int.reduceNeg, Int.reduceBEq, Int.reduceBNe, Nat.reduceBEq, Int.cast_ofNat_Int, decide_true, decide_false, ne_eq, eq_self_iff_true, beq_eq_false_iff_ne, bne_iff_ne, List.replicate, *]))))
    all_goals (
      have hs : serverB s = false := by grind [serverB]
      iterate 30 (all_goals (try (first
        | ((with_reducible refine of_kSpec ?_); refine call_fz (spec94 _) rfl ?_)
        | (with_reducible refine ite_in (fun _ => ?_) (fun _ => ?_))
        | (with_reducible refine ⟨fun _ => ?_, fun _ => ?_⟩)
        | (with_reducible refine And.intro ?_ ?_)
        | (with_reducible intro _)
        | (with_reducible exact is_in _)
        | ((with_reducible refine eq_in ?_); (grind); done)
        | (simp -implicitDefEqProofs only [SD, SF, SL, e_nf, reduceCtorEq, implies_true, ↓reduceIte, Nat.reduceEqDiff, Nat.reduceAdd, Nat.reduceMul, Nat.reduceSub, Nat.reduceLeDiff, Nat.reduceLT, Int.reduceLT, Int.reduceLE, Int.reduceEq, Int.reduceToNat, Int.reduceAdd, Int.reduceSub, Int.reduceNeg, Int.reduceBEq, Int.reduceBNe, Nat.reduceBEq, Int.cast_ofNat_Int, decide_true, decide_false, ne_eq, eq_self_iff_true, beq_eq_false_iff_ne, bne_iff_ne, List.replicate, *])))))
  · have hs : serverB s = false := by
      have : lenB s = false := by simp only [lenB, decide_eq_false_iff_not]; exact h
      simp [serverB, this]
    iterate 30 (all_goals (try (first
      | (with_reducible refine ite_in (fun _ => ?_) (fun _ => ?_))
      | (with_reducible refine ⟨fun _ => ?_, fun _ => ?_⟩)
      | (with_reducible refine And.intro ?_ ?_)
      | (with_reducible intro _)
      | (with_reducible exact is_in _)
      | ((with_reducible refine eq_in ?_); (first | (simp [hs]; done) | omega); done)
      | (simp -implicitDefEqProofs only [SD, SF, SL, e_nf, reduceCtorEq, implies_true, ↓reduceIte, Nat.reduceEqDiff, Nat.reduceAdd, Nat.reduceMul, Nat.reduceSub, Nat.reduceLeDiff, Nat.reduceLT, Int.reduceLT, Int.reduceLE, Int.reduceEq, Int.reduceToNat, Int.reduceAdd, Int.reduceSub, Int.reduceNeg, Int.reduceBEq, Int.reduceBNe, Nat.reduceBEq, Int.cast_ofNat_Int, decide_true, decide_false, ne_eq, eq_self_iff_true, beq_eq_false_iff_ne, bne_iff_ne, List.replicate, *]))))
    all_goals (first | (simp_all; done) | omega)


end Go.Proofs.YtcolebkklojccaaGreat.E

namespace Go.Proofs.YtcolebkklojccaaGreat.E
open Go
set_option maxHeartbeats 4000000
set_option maxRecDepth 100000
set_option linter.unusedSimpArgs false
set_option linter.unusedVariables false
attribute [local congr] c_wp c_ops c_op c_opS c_run c_runS c_dt c_seq c_blk c_loop c_S c_put c_bind c_mv c_pick c_nt c_ng c_bin c_binI c_binS c_beq c_B c_eqa c_hd c_cells c_blkK c_box c_vec c_mp c_nck c_mks c_appn c_mkm c_mput c_mlk c_mrm c_take c_ld c_ldF c_cellsK c_st c_fld c_fldv c_ix c_ixp c_ixv c_ixs c_sub c_subs c_len c_lens c_src c_dst c_ow c_app c_ext c_mm c_conv c_str c_isn c_fill c_rows c_boxo c_frz c_frzO c_frzA c_frzV c_spec c_specO c_opsP c_opP c_runP c_specP c_Z c_qretP c_fz c_fn c_gv c_cond c_res1 c_resL c_ret c_qret c_ite c_unr c_nx c_bk c_cut c_is
attribute [local irreducible] dwp

def Tryz.lays217_ren : Go.Shelf.Ren := ⟨fun | 217 => 108 | 266 => 115 | n => n, fun | 9 => 9 | 5 => 5 | 3 => 3 | n => n, fun | n => n⟩
theorem Tryz.lays217 : Go.Proofs.Lays.n217 Tryz.prog Tryz.lays217_ren := {
  mixed := by kernel_rfl
  f217 := Tryz.func108.trans (congrArg some (by kernel_rfl))
  f266 := Tryz.func115.trans (congrArg some (by kernel_rfl))
  t3 := Tryz.underlying3
  a3 := Tryz.isAgg3
  z3 := Tryz.sizeOf3
  v3 := Tryz.zeroValue3
  t5 := Tryz.underlying5
  a5 := Tryz.isAgg5
  z5 := Tryz.sizeOf5
  v5 := Tryz.zeroValue5
  t9 := Tryz.underlying9
  a9 := Tryz.isAgg9
  z9 := Tryz.sizeOf9
  v9 := Tryz.zeroValue9 }
theorem spec108 (l : List UInt8) (n : Int) : Spec Tryz.prog 108 [.fz (.str l), .fz (.int .u8 n)] (.fz (.int .i64 (Lib.indexByte l n.toNat.toUInt8))) := by
  refine ⟨by kernel_rfl, fun F w vs hf hargs _ => ?_⟩
  obtain ⟨v, r, e, h1, h2⟩ := hargs
  obtain ⟨v2, r2, e2, h3, h4⟩ := h2
  have h4 : r2 = [] := h4
  have h1 : RF F w (.str l) v := h1
  have h3 : RF F w (.int .u8 n) v2 := h3
  rw [RF] at h1
  rw [RF] at h3
  obtain ⟨rfl, -⟩ := h1
  subst h3 h4 e2
  obtain rfl : vs = #[.string ⟨l.toArray⟩, .int .u8 n] := by apply Array.ext'; simpa using e
  refine (Any.stringslite_IndexByte Tryz.lays217 ⟨l.toArray⟩ n w).mono ?_
  rintro e w' ⟨rfl, rfl⟩
  exact ⟨_, F, rfl, ⟨fun _ _ h => h, fun _ _ h => .inl h, hf, Nat.le_refl _, fun _ _ _ => rfl, rfl, rfl, rfl⟩, by show RF _ _ _ _; rw [RF]⟩

end Go.Proofs.YtcolebkklojccaaGreat.E

namespace Go.Proofs.YtcolebkklojccaaGreat.E
open Go
set_option maxHeartbeats 4000000
set_option maxRecDepth 100000
set_option linter.unusedSimpArgs false
set_option linter.unusedVariables false
attribute [local congr] c_wp c_ops c_op c_opS c_run c_runS c_dt c_seq c_blk c_loop c_S c_put c_bind c_mv c_pick c_nt c_ng c_bin c_binI c_binS c_beq c_B c_eqa c_hd c_cells c_blkK c_box c_vec c_mp c_nck c_mks c_appn c_mkm c_mput c_mlk c_mrm c_take c_ld c_ldF c_cellsK c_st c_fld c_fldv c_ix c_ixp c_ixv c_ixs c_sub c_subs c_len c_lens c_src c_dst c_ow c_app c_ext c_mm c_conv c_str c_isn c_fill c_rows c_boxo c_frz c_frzO c_frzA c_frzV c_spec c_specO c_opsP c_opP c_runP c_specP c_Z c_qretP c_fz c_fn c_gv c_cond c_res1 c_resL c_ret c_qret c_ite c_unr c_nx c_bk c_cut c_is
attribute [local irreducible] dwp

theorem colon_cons (x : UInt8) (t : List UInt8) : colonN (x :: t) = if x = 58 then 0 else colonN t + 1 := by
  unfold colonN
  rw [List.takeWhile_cons]
  by_cases h : x = 58 <;> simp [h]
theorem colon_le (t : List UInt8) : colonN t ≤ t.length := by
  induction t with
  | nil => simp [colonN]
  | cons x t ih => rw [colon_cons]; split <;> simp <;> omega
def idxC (t : List UInt8) : Int := if colonN t < t.length then colonN t else -1
theorem idxC_eq (t : List UInt8) : Lib.indexByte t 58 = idxC t := by
  induction t with
  | nil => rfl
  | cons x t ih =>
    have := colon_le t
    unfold idxC at *
    unfold Lib.indexByte
    rw [ih, colon_cons]
    by_cases h : x = 58
    · simp [h]
    · have hb : (x == 58) = false := by simpa using h
      rw [hb]
      simp only [h, if_false, List.length_cons]
      by_cases h2 : colonN t < t.length <;> simp [h2] <;> omega
theorem idxC' (t : List UInt8) : Lib.indexByte t (Int.toNat 58).toUInt8 = idxC t := idxC_eq t
theorem mark_at (x : UInt8) : Lib.indexByte [64, 33] ((x.toNat : Int)).toNat.toUInt8 = if x = 64 then 0 else if x = 33 then 1 else -1 := by
  have : ((x.toNat : Int)).toNat.toUInt8 = x := by simp
  rw [this]
  simp only [Lib.indexByte]
  by_cases h : x = 64
  · subst h
    rfl
  · by_cases h2 : x = 33
    · subst h2
      rfl
    · have e1 : ((64 : UInt8) == x) = false := by simpa using fun h' => h h'.symm
      have e2 : ((33 : UInt8) == x) = false := by simpa using fun h' => h2 h'.symm
      simp [e1, e2, h, h2]
def cut1 (t : List UInt8) : List UInt8 := if colonN t < t.length then t.take (colonN t) else t
def cut2 (t : List UInt8) : List UInt8 := if colonN t < t.length then t.drop (colonN t + 1) else []
def cut3 (t : List UInt8) : Bool := decide (colonN t < t.length)
def nameOK (t : List UInt8) : Bool := cut3 t && localB (cut1 t) && serverB (cut2 t)
def markB (s : List UInt8) (mk : Nat) : Bool := match s with
  | [] => false
  | x :: t => decide (x.toNat = mk) && nameOK t
def srvOf (s : List UInt8) : List UInt8 := if (markB s 64 || markB s 33) = true then cut2 (s.drop 1) else []
def ac95 : AC := (.seq (.ops [⟨(some 4), none, (.mv (.c (.int .i64 0)))⟩]) (.seq (.ops [⟨(some 5), none, (.mv (.t 0))⟩, ⟨(some 6), none, (.mv (.t 1))⟩, ⟨(some 7), none, (.call false 108 [(.t 5), (.t 6)])⟩, ⟨(some 4), none, (.mv (.t 7))⟩]) .ret))
theorem tr95 : Tryz.f95.body.bind (trCode Tryz.prog) = some (strip ac95) := by kernel_rfl
theorem spec95 (l : List UInt8) (n : Int) : Spec Tryz.prog 95 [.fz (.str l), .fz (.int .u8 n)] (.fz (.int .i64 (Lib.indexByte l n.toNat.toUInt8))) := by
  refine spec_at (n := 6) (ars := [(.t 4)]) (ac := ac95) Tryz.func95 (by kernel_rfl) (by kernel_rfl) tr95 (by kernel_rfl) ?_
  unfold ac95
  iterate 30 (all_goals (try (first
    | ((with_reducible refine of_kSpec ?_); refine call_fz (spec108 l n) rfl ?_)
    | (with_reducible refine ite_in (fun _ => ?_) (fun _ => ?_))
    | (with_reducible refine ⟨fun _ => ?_, fun _ => ?_⟩)
    | (with_reducible refine And.intro ?_ ?_)
    | (with_reducible intro _)
    | (with_reducible exact is_in _)
    | (simp -implicitDefEqProofs only [SD, SF, SL, e_nf, reduceCtorEq, implies_true, ↓reduceIte, Nat.reduceEqDiff, Nat.reduceAdd, Nat.reduceMul, Nat.reduceSub, Nat.reduceLeDiff, Nat.reduceLT, Int.reduceLT, Int.reduceLE, Int.reduceEq, Int.reduceToNat, Int.reduceAdd, Int.reduceSub, Int.reduceNeg, Int.reduceBEq, Int.reduceBNe, Nat.reduceBEq, Int.cast_ofNat_Int, decide_true, decide_false, ne_eq, eq_self_iff_true, beq_eq_false_iff_ne, bne_iff_ne, List.replicate, *]))))
def ac116 : AC := (.seq (.ops [⟨(some 4), none, (.mv (.c (.int .i64 0)))⟩]) (.seq (.ops [⟨(some 14), none, (.mv (.t 1))⟩, ⟨(some 15), none, (.lens (.t 14))⟩, ⟨(some 5), none, (.mv (.t 15))⟩]) (.seq (.block 0 (.seq (.ops [⟨(some 17), none, (.mv (.t 5))⟩, ⟨(some 18), none, (.bin .eql (.t 17) (.c (.int .i64 0)))⟩, ⟨(some 19), none, (.mv (.t 18))⟩, ⟨(some 20), (some (19, false)), (.mv (.t 1))⟩, ⟨(some 21), (some (19, false)), (.mv (.t 0))⟩, ⟨(some 22), (some (19, false)), (.bin .eql (.t 20) (.t 21))⟩, ⟨(some 23), none, (.pick (.t 19) (.c (.bool true)) (.t 22))⟩, ⟨(some 16), none, (.mv (.t 23))⟩]) (.cond (.t 16) (.seq (.ops [⟨(some 4), none, (.mv (.c (.int .i64 0)))⟩]) .ret) (.seq (.ops [⟨(some 25), none, (.mv (.t 5))⟩, ⟨(some 26), none, (.bin .eql (.t 25) (.c (.int .i64 1)))⟩, ⟨(some 24), none, (.mv (.t 26))⟩]) (.cond (.t 24) (.seq (.ops [⟨(some 27), none, (.mv (.t 0))⟩, ⟨(some 28), none, (.mv (.t 1))⟩, ⟨(some 29), none, (.ixs (.t 28) (.c (.int .i64 0)))⟩, ⟨(some 30), none, (.call false 108 [(.t 27), (.t 29)])⟩, ⟨(some 4), none, (.mv (.t 30))⟩]) .ret) (.seq (.ops [⟨(some 32), none, (.mv (.t 5))⟩, ⟨(some 33), none, (.mv (.t 0))⟩, ⟨(some 34), none, (.lens (.t 33))⟩, ⟨(some 35), none, (.bin .geq (.t 32) (.t 34))⟩, ⟨(some 31), none, (.mv (.t 35))⟩]) (.cond (.t 31) (.seq (.ops [⟨(some 4), none, (.mv (.c (.int .i64 (-1))))⟩]) .ret) (.seq .bad (.cond (.t 36) (.seq (.ops [⟨(some 45), none, (.mv (.t 0))⟩, ⟨(some 46), none, (.mv (.t 1))⟩, ⟨(some 47), none, (.call false 117 [(.t 45), (.t 46)])⟩, ⟨(some 4), none, (.mv (.t 47))⟩]) .ret) .skip))))))))) (.seq (.ops [⟨(some 48), none, (.mv (.t 1))⟩, ⟨(some 49), none, (.ixs (.t 48) (.c (.int .i64 0)))⟩, ⟨(some 6), none, (.mv (.t 49))⟩]) (.seq (.ops [⟨(some 50), none, (.mv (.t 1))⟩, ⟨(some 51), none, (.ixs (.t 50) (.c (.int .i64 1)))⟩, ⟨(some 7), none, (.mv (.t 51))⟩]) (.seq (.ops [⟨(some 8), none, (.mv (.c (.int .i64 0)))⟩]) (.seq (.ops [⟨(some 52), none, (.mv (.t 0))⟩, ⟨(some 53), none, (.lens (.t 52))⟩, ⟨(some 54), none, (.mv (.t 5))⟩, ⟨(some 55), none, (.bin .sub (.t 53) (.t 54))⟩, ⟨(some 56), none, (.bin .add (.t 55) (.c (.int .i64 1)))⟩, ⟨(some 9), none, (.mv (.t 56))⟩]) (.seq (.ops [⟨(some 10), none, (.mv (.c (.int .i64 0)))⟩]) (.seq (.block 1 (.loop (.seq (.seq (.ops [⟨(some 57), none, (.mv (.t 8))⟩, ⟨(some 58), none, (.mv (.t 9))⟩, ⟨(some 59), none, (.bin .lss (.t 57) (.t 58))⟩]) (.cond (.t 59) .skip (.exit 1))) (.block 2 (.seq (.seq (.ops [⟨(some 60), none, (.mv (.t 0))⟩, ⟨(some 61), none, (.mv (.t 8))⟩, ⟨(some 62), none, (.ixs (.t 60) (.t 61))⟩, ⟨(some 63), none, (.mv (.t 6))⟩, ⟨(some 64), none, (.bin .neq (.t 62) (.t 63))⟩]) (.cond (.t 64) (.seq (.ops [⟨(some 65), none, (.mv (.t 0))⟩, ⟨(some 66), none, (.mv (.t 8))⟩, ⟨(some 67), none, (.bin .add (.t 66) (.c (.int .i64 1)))⟩, ⟨(some 68), none, (.mv (.t 9))⟩, ⟨(some 69), none, (.subs (.t 65) (some (.t 67)) (some (.t 68)))⟩, ⟨(some 70), none, (.mv (.t 6))⟩, ⟨(some 71), none, (.call false 108 [(.t 69), (.t 70)])⟩, ⟨(some 11), none, (.mv (.t 71))⟩]) (.seq (.seq (.ops [⟨(some 72), none, (.mv (.t 11))⟩, ⟨(some 73), none, (.bin .lss (.t 72) (.c (.int .i64 0)))⟩]) (.cond (.t 73) (.seq (.ops [⟨(some 4), none, (.mv (.c (.int .i64 (-1))))⟩]) .ret) .skip)) (.ops [⟨(some 74), none, (.mv (.t 8))⟩, ⟨(some 75), none, (.mv (.t 11))⟩, ⟨(some 76), none, (.bin .add (.t 75) (.c (.int .i64 1)))⟩, ⟨(some 77), none, (.bin .add (.t 74) (.t 76))⟩, ⟨(some 8), none, (.mv (.t 77))⟩]))) .skip)) (.seq (.seq (.ops [⟨(some 78), none, (.mv (.t 0))⟩, ⟨(some 79), none, (.mv (.t 8))⟩, ⟨(some 80), none, (.bin .add (.t 79) (.c (.int .i64 1)))⟩, ⟨(some 81), none, (.ixs (.t 78) (.t 80))⟩, ⟨(some 82), none, (.mv (.t 7))⟩, ⟨(some 83), none, (.bin .eql (.t 81) (.t 82))⟩, ⟨(some 84), none, (.mv (.t 83))⟩, ⟨(some 85), (some (84, true)), (.mv (.t 0))⟩, ⟨(some 86), (some (84, true)), (.mv (.t 8))⟩, ⟨(some 87), (some (84, true)), (.mv (.t 8))⟩, ⟨(some 88), (some (84, true)), (.mv (.t 5))⟩, ⟨(some 89), (some (84, true)), (.bin .add (.t 87) (.t 88))⟩, ⟨(some 90), (some (84, true)), (.subs (.t 85) (some (.t 86)) (some (.t 89)))⟩, ⟨(some 91), (some (84, true)), (.mv (.t 1))⟩, ⟨(some 92), (some (84, true)), (.bin .eql (.t 90) (.t 91))⟩, ⟨(some 93), none, (.pick (.t 84) (.t 92) (.c (.bool false)))⟩]) (.cond (.t 93) (.seq (.ops [⟨(some 94), none, (.mv (.t 8))⟩, ⟨(some 4), none, (.mv (.t 94))⟩]) .ret) .skip)) (.seq (.ops [⟨(some 95), none, (.mv (.t 8))⟩, ⟨(some 96), none, (.bin .add (.t 95) (.c (.int .i64 1)))⟩, ⟨(some 8), none, (.mv (.t 96))⟩]) (.seq (.ops [⟨(some 97), none, (.mv (.t 10))⟩, ⟨(some 98), none, (.bin .add (.t 97) (.c (.int .i64 1)))⟩, ⟨(some 10), none, (.mv (.t 98))⟩]) (.seq .bad (.cond (.t 107) (.seq (.ops [⟨(some 108), none, (.mv (.t 0))⟩, ⟨(some 109), none, (.mv (.t 8))⟩, ⟨(some 110), none, (.subs (.t 108) (some (.t 109)) none)⟩, ⟨(some 111), none, (.mv (.t 1))⟩, ⟨(some 112), none, (.call false 117 [(.t 110), (.t 111)])⟩, ⟨(some 12), none, (.mv (.t 112))⟩]) (.seq (.seq (.ops [⟨(some 113), none, (.mv (.t 12))⟩, ⟨(some 114), none, (.bin .geq (.t 113) (.c (.int .i64 0)))⟩]) (.cond (.t 114) (.seq (.ops [⟨(some 115), none, (.mv (.t 12))⟩, ⟨(some 116), none, (.mv (.t 8))⟩, ⟨(some 117), none, (.bin .add (.t 115) (.t 116))⟩, ⟨(some 4), none, (.mv (.t 117))⟩]) .ret) .skip)) (.seq (.ops [⟨(some 4), none, (.mv (.c (.int .i64 (-1))))⟩]) .ret))) (.seq .bad (.cond (.t 132) (.seq (.ops [⟨(some 133), none, (.mv (.t 0))⟩, ⟨(some 134), none, (.mv (.t 8))⟩, ⟨(some 135), none, (.subs (.t 133) (some (.t 134)) none)⟩, ⟨(some 136), none, (.mv (.t 1))⟩, ⟨(some 137), none, (.call false 119 [(.t 135), (.t 136)])⟩, ⟨(some 13), none, (.mv (.t 137))⟩]) (.seq (.seq (.ops [⟨(some 138), none, (.mv (.t 13))⟩, ⟨(some 139), none, (.bin .lss (.t 138) (.c (.int .i64 0)))⟩]) (.cond (.t 139) (.seq (.ops [⟨(some 4), none, (.mv (.c (.int .i64 (-1))))⟩]) .ret) .skip)) (.seq (.ops [⟨(some 140), none, (.mv (.t 8))⟩, ⟨(some 141), none, (.mv (.t 13))⟩, ⟨(some 142), none, (.bin .add (.t 140) (.t 141))⟩, ⟨(some 4), none, (.mv (.t 142))⟩]) .ret))) .skip)))))))))))) (.seq (.ops [⟨(some 4), none, (.mv (.c (.int .i64 (-1))))⟩]) .ret))))))))))
theorem tr116 : Tryz.f116.body.bind (trCode Tryz.prog) = some (strip ac116) := by kernel_rfl
theorem spec116 (s : List UInt8) : Spec Tryz.prog 116 [.fz (.str s), .fz (.str [58])] (.fz (.int .i64 (idxC s))) := by
  refine spec_at (n := 141) (ars := [(.t 4)]) (ac := ac116) Tryz.func116 (by kernel_rfl) (by kernel_rfl) tr116 (by kernel_rfl) ?_
  unfold ac116
  iterate 30 (all_goals (try (first
    | ((with_reducible refine of_kSpec ?_); refine call_fz (spec108 s 58) rfl ?_)
    | (with_reducible refine ite_in (fun _ => ?_) (fun _ => ?_))
    | (with_reducible refine ⟨fun _ => ?_, fun _ => ?_⟩)
    | (with_reducible refine And.intro ?_ ?_)
    | (with_reducible intro _)
    | (with_reducible exact is_in _)
    | (simp -implicitDefEqProofs only [SD, SF, SL, e_nf, reduceCtorEq, implies_true, ↓reduceIte, Nat.reduceEqDiff, Nat.reduceAdd, Nat.reduceMul, Nat.reduceSub, Nat.reduceLeDiff, Nat.reduceLT, Int.reduceLT, Int.reduceLE, Int.reduceEq, Int.reduceToNat, Int.reduceAdd, Int.reduceSub, Int.reduceNeg, Int.reduceBEq, Int.reduceBNe, Nat.reduceBEq, Int.cast_ofNat_Int, decide_true, decide_false, ne_eq, eq_self_iff_true, beq_eq_false_iff_ne, bne_iff_ne, List.replicate, idxC', *]))))
  all_goals (first | exact idxC_eq s | (subst_vars; rfl) | (subst_vars; decide))
def ac109 : AC := (.seq (.ops [⟨(some 4), none, (.mv (.c (.str [])))⟩, ⟨(some 5), none, (.mv (.c (.str [])))⟩, ⟨(some 6), none, (.mv (.c (.bool false)))⟩]) (.seq (.seq (.ops [⟨(some 8), none, (.mv (.t 0))⟩, ⟨(some 9), none, (.mv (.t 1))⟩, ⟨(some 10), none, (.call false 116 [(.t 8), (.t 9)])⟩, ⟨(some 7), none, (.mv (.t 10))⟩]) (.seq (.ops [⟨(some 11), none, (.mv (.t 7))⟩, ⟨(some 12), none, (.bin .geq (.t 11) (.c (.int .i64 0)))⟩]) (.cond (.t 12) (.seq (.draw (.q true ⟨(some 13), none, (.mv (.t 0))⟩ (.q true ⟨(some 14), none, (.mv (.t 7))⟩ (.q true ⟨(some 16), none, (.mv (.t 0))⟩ (.q true ⟨(some 17), none, (.mv (.t 7))⟩ (.q true ⟨(some 18), none, (.mv (.t 1))⟩ (.alt (.op ⟨(some 15), none, (.subs (.t 13) none (some (.t 14)))⟩ (.q true ⟨(some 4), none, (.mv (.t 15))⟩ (.op ⟨(some 19), none, (.lens (.t 18))⟩ (.q false ⟨(some 20), none, (.bin .add (.t 17) (.t 19))⟩ (.op ⟨(some 21), none, (.subs (.t 16) (some (.t 20)) none)⟩ (.q false ⟨(some 5), none, (.mv (.t 21))⟩ (.q false ⟨(some 6), none, (.mv (.c (.bool true)))⟩ .nil))))))) (.op ⟨(some 19), none, (.lens (.t 18))⟩ (.q true ⟨(some 20), none, (.bin .add (.t 17) (.t 19))⟩ (.alt (.op ⟨(some 15), none, (.subs (.t 13) none (some (.t 14)))⟩ (.q true ⟨(some 4), none, (.mv (.t 15))⟩ (.op ⟨(some 21), none, (.subs (.t 16) (some (.t 20)) none)⟩ (.q false ⟨(some 5), none, (.mv (.t 21))⟩ (.q false ⟨(some 6), none, (.mv (.c (.bool true)))⟩ .nil))))) (.op ⟨(some 21), none, (.subs (.t 16) (some (.t 20)) none)⟩ (.op ⟨(some 15), none, (.subs (.t 13) none (some (.t 14)))⟩ (.q false ⟨(some 4), none, (.mv (.t 15))⟩ (.q false ⟨(some 5), none, (.mv (.t 21))⟩ (.q false ⟨(some 6), none, (.mv (.c (.bool true)))⟩ .nil))))))))))))))) .ret) .skip))) (.seq (.ops [⟨(some 22), none, (.mv (.t 0))⟩, ⟨(some 4), none, (.mv (.t 22))⟩, ⟨(some 5), none, (.mv (.c (.str [])))⟩, ⟨(some 6), none, (.mv (.c (.bool false)))⟩]) .ret)))
theorem tr109 : Tryz.f109.body.bind (trCode Tryz.prog) = some (strip ac109) := by kernel_rfl
theorem spec109 (s : List UInt8) (hb : s.length ≤ 100000) : Spec Tryz.prog 109 [.fz (.str s), .fz (.str [58])] (.fz (.tup [.str (cut1 s), .str (cut2 s), .bool (cut3 s)])) := by
  refine spec_at (n := 21) (ars := [(.t 4), (.t 5), (.t 6)]) (ac := ac109) Tryz.func109 (by kernel_rfl) (by kernel_rfl) tr109 (by kernel_rfl) ?_
  unfold ac109
  by_cases h : colonN s < s.length
  · have hi : idxC s = colonN s := by simp [idxC, h]
    have hw : IntKind.i64.wrap ((colonN s : Int) + 1) = ((colonN s + 1 : Nat) : Int) := by
      rw [wrap_in (by omega) (by omega)]
      omega
    have h0 : colonN s ≤ s.length := by omega
    have h1 : colonN s + 1 ≤ s.length := by omega
    iterate 30 (all_goals (try (first
      | ((with_reducible refine of_kSpec ?_); refine call_fz (spec116 s) rfl ?_)
      | (with_reducible refine ite_in (fun _ => ?_) (fun _ => ?_))
      | (with_reducible refine ⟨fun _ => ?_, fun _ => ?_⟩)
      | (with_reducible refine And.intro ?_ ?_)
      | (with_reducible intro _)
      | (with_reducible exact is_in _)
      | (simp -implicitDefEqProofs only [SD, SF, SL, e_nf, reduceCtorEq, implies_true, ↓reduceIte, Nat.reduceEqDiff, Nat.reduceAdd, Nat.reduceMul, Nat.reduceSub, Nat.reduceLeDiff, Nat.reduceLT, Int.reduceLT, Int.reduceLE, Int.reduceEq, Int.reduceToNat, Int.reduceAdd, Int.reduceSub, Int.reduceNeg, Int.reduceBEq, Int.reduceBNe, Nat.reduceBEq, Int.cast_ofNat_Int, decide_true, decide_false, ne_eq, eq_self_iff_true, beq_eq_false_iff_ne, bne_iff_ne, List.replicate, *]))))
    all_goals (simp [cut1, cut2, cut3, h, List.take_length])
  · have hi : idxC s = -1 := by simp [idxC, h]
    iterate 30 (all_goals (try (first
      | ((with_reducible refine of_kSpec ?_); refine call_fz (spec116 s) rfl ?_)
      | (with_reducible refine ite_in (fun _ => ?_) (fun _ => ?_))
      | (with_reducible refine ⟨fun _ => ?_, fun _ => ?_⟩)
      | (with_reducible refine And.intro ?_ ?_)
      | (with_reducible intro _)
      | (with_reducible exact is_in _)
      | (simp -implicitDefEqProofs only [SD, SF, SL, e_nf, reduceCtorEq, implies_true, ↓reduceIte, Nat.reduceEqDiff, Nat.reduceAdd, Nat.reduceMul, Nat.reduceSub, Nat.reduceLeDiff, Nat.reduceLT, Int.reduceLT, Int.reduceLE, Int.reduceEq, Int.reduceToNat, Int.reduceAdd, Int.reduceSub, Int.reduceNeg, Int.reduceBEq, Int.reduceBNe, Nat.reduceBEq, Int.cast_ofNat_Int, decide_true, decide_false, ne_eq, eq_self_iff_true, beq_eq_false_iff_ne, bne_iff_ne, List.replicate, *]))))
    all_goals (simp [cut1, cut2, cut3, h])

def ac96 : AC := (.seq (.ops [⟨(some 4), none, (.mv (.c (.str [])))⟩, ⟨(some 5), none, (.mv (.c (.str [])))⟩, ⟨(some 6), none, (.mv (.c (.bool false)))⟩]) (.seq (.ops [⟨(some 7), none, (.mv (.t 0))⟩, ⟨(some 8), none, (.mv (.t 1))⟩, ⟨(some 9), none, (.call false 109 [(.t 7), (.t 8)])⟩, ⟨(some 10), none, (.ext (.t 9) 0)⟩, ⟨(some 11), none, (.ext (.t 9) 1)⟩, ⟨(some 12), none, (.ext (.t 9) 2)⟩, ⟨(some 4), none, (.mv (.t 10))⟩, ⟨(some 5), none, (.mv (.t 11))⟩, ⟨(some 6), none, (.mv (.t 12))⟩]) .ret))
theorem tr96 : Tryz.f96.body.bind (trCode Tryz.prog) = some (strip ac96) := by kernel_rfl
theorem spec96 (s : List UInt8) (hb : s.length ≤ 100000) : Spec Tryz.prog 96 [.fz (.str s), .fz (.str [58])] (.fz (.tup [.str (cut1 s), .str (cut2 s), .bool (cut3 s)])) := by
  refine spec_at (n := 11) (ars := [(.t 4), (.t 5), (.t 6)]) (ac := ac96) Tryz.func96 (by kernel_rfl) (by kernel_rfl) tr96 (by kernel_rfl) ?_
  unfold ac96
  iterate 30 (all_goals (try (first
    | ((with_reducible refine of_kSpec ?_); refine call_fz (spec109 s hb) rfl ?_)
    | (with_reducible refine ite_in (fun _ => ?_) (fun _ => ?_))
    | (with_reducible refine ⟨fun _ => ?_, fun _ => ?_⟩)
    | (with_reducible refine And.intro ?_ ?_)
    | (with_reducible intro _)
    | (with_reducible exact is_in _)
    | (simp -implicitDefEqProofs only [SD, SF, SL, e_nf, reduceCtorEq, implies_true, ↓reduceIte, Nat.reduceEqDiff, Nat.reduceAdd, Nat.reduceMul, Nat.reduceSub, Nat.reduceLeDiff, Nat.reduceLT, Int.reduceLT, Int.reduceLE, Int.reduceEq, Int.reduceToNat, Int.reduceAdd, Int.reduceSub, Int.reduceNeg, Int.reduceBEq, Int.reduceBNe, Nat.reduceBEq, Int.cast_ofNat_Int, decide_true, decide_false, ne_eq, eq_self_iff_true, beq_eq_false_iff_ne, bne_iff_ne, List.replicate, *]))))

end Go.Proofs.YtcolebkklojccaaGreat.E

namespace Go.Proofs.YtcolebkklojccaaGreat.E
open Go
set_option maxHeartbeats 4000000
set_option maxRecDepth 100000
set_option linter.unusedSimpArgs false
set_option linter.unusedVariables false
attribute [local congr] c_wp c_ops c_op c_opS c_run c_runS c_dt c_seq c_blk c_loop c_S c_put c_bind c_mv c_pick c_nt c_ng c_bin c_binI c_binS c_beq c_B c_eqa c_hd c_cells c_blkK c_box c_vec c_mp c_nck c_mks c_appn c_mkm c_mput c_mlk c_mrm c_take c_ld c_ldF c_cellsK c_st c_fld c_fldv c_ix c_ixp c_ixv c_ixs c_sub c_subs c_len c_lens c_src c_dst c_ow c_app c_ext c_mm c_conv c_str c_isn c_fill c_rows c_boxo c_frz c_frzO c_frzA c_frzV c_spec c_specO c_opsP c_opP c_runP c_specP c_Z c_qretP c_fz c_fn c_gv c_cond c_res1 c_resL c_ret c_qret c_ite c_unr c_nx c_bk c_cut c_is
attribute [local irreducible] dwp

theorem n_u8 (x : UInt8) (n : Nat) : ((x.toNat : Int) = n) = (x.toNat = n) := by
  apply propext
  constructor <;> intro h <;> omega
theorem mark_at' (x : UInt8) : Lib.indexByte [64, 33] x.toNat.toUInt8 = if x = 64 then 0 else if x = 33 then 1 else -1 := mark_at x
theorem u64 (x : UInt8) : (x.toNat = 64) = (x = 64) := by
  apply propext
  constructor
  · intro h
    exact UInt8.toNat_inj.1 h
  · rintro rfl
    rfl
theorem u33 (x : UInt8) : (x.toNat = 33) = (x = 33) := by
  apply propext
  constructor
  · intro h
    exact UInt8.toNat_inj.1 h
  · rintro rfl
    rfl
theorem cons0 (x : UInt8) (t : List UInt8) : (x :: t).getD 0 0 = x := rfl
theorem cons_lt (x : UInt8) (t : List UInt8) : (0 : Int) < ((x :: t).length : Int) := by simp only [List.length_cons]; omega
theorem cons_le (x : UInt8) (t : List UInt8) : 1 ≤ (x :: t).length := by simp
theorem cons_take (x : UInt8) (t : List UInt8) : ((x :: t).take (x :: t).length).drop 1 = t := by simp
theorem cons_nil (x : UInt8) (t : List UInt8) : (x :: t = []) = False := by simp
def markX (s : List UInt8) : Bool := markB s 64 || markB s 33
theorem markX_cons (x : UInt8) (t : List UInt8) : markX (x :: t) = (decide (x = 64 ∨ x = 33) && nameOK t) := by
  simp only [markX, markB, u64, u33]
  by_cases h1 : x = 64 <;> by_cases h2 : x = 33 <;> simp [h1, h2]
def ac85 : AC := (.seq (.ops [⟨(some 4), none, (.mv (.c (.str [])))⟩, ⟨(some 5), none, (.mv (.c (.str [])))⟩, ⟨(some 6), none, (.mv (.c (.bool false)))⟩]) (.seq (.seq (.ops [⟨(some 10), none, (.mv (.t 0))⟩, ⟨(some 11), none, (.bin .eql (.t 10) (.c (.str [])))⟩, ⟨(some 12), none, (.mv (.t 11))⟩, ⟨(some 13), (some (12, false)), (.mv (.t 1))⟩, ⟨(some 14), (some (12, false)), (.mv (.t 0))⟩, ⟨(some 15), (some (12, false)), (.ixs (.t 14) (.c (.int .i64 0)))⟩, ⟨(some 16), (some (12, false)), (.call false 95 [(.t 13), (.t 15)])⟩, ⟨(some 17), (some (12, false)), (.bin .lss (.t 16) (.c (.int .i64 0)))⟩, ⟨(some 18), none, (.pick (.t 12) (.c (.bool true)) (.t 17))⟩]) (.cond (.t 18) (.seq (.ops [⟨(some 4), none, (.mv (.c (.str [])))⟩, ⟨(some 5), none, (.mv (.c (.str [])))⟩, ⟨(some 6), none, (.mv (.c (.bool false)))⟩]) .ret) .skip)) (.seq (.ops [⟨(some 20), none, (.mv (.t 0))⟩, ⟨(some 21), none, (.subs (.t 20) (some (.c (.int .i64 1))) none)⟩, ⟨(some 22), none, (.call false 96 [(.t 21), (.c (.str [58]))])⟩, ⟨(some 19), none, (.mv (.t 22))⟩, ⟨(some 23), none, (.ext (.t 19) 0)⟩, ⟨(some 24), none, (.ext (.t 19) 1)⟩, ⟨(some 25), none, (.ext (.t 19) 2)⟩, ⟨(some 7), none, (.mv (.t 23))⟩, ⟨(some 8), none, (.mv (.t 24))⟩, ⟨(some 9), none, (.mv (.t 25))⟩]) (.seq (.seq (.ops [⟨(some 26), none, (.mv (.t 9))⟩, ⟨(some 27), none, (.nt (.t 26))⟩, ⟨(some 28), none, (.mv (.t 27))⟩, ⟨(some 29), (some (28, false)), (.mv (.t 7))⟩, ⟨(some 30), (some (28, false)), (.call false 97 [(.t 29)])⟩, ⟨(some 31), (some (28, false)), (.nt (.t 30))⟩, ⟨(some 32), none, (.pick (.t 28) (.c (.bool true)) (.t 31))⟩, ⟨(some 33), none, (.mv (.t 32))⟩, ⟨(some 34), (some (33, false)), (.mv (.t 8))⟩, ⟨(some 35), (some (33, false)), (.call false 98 [(.t 34)])⟩, ⟨(some 36), (some (33, false)), (.nt (.t 35))⟩, ⟨(some 37), none, (.pick (.t 33) (.c (.bool true)) (.t 36))⟩]) (.cond (.t 37) (.seq (.ops [⟨(some 4), none, (.mv (.c (.str [])))⟩, ⟨(some 5), none, (.mv (.c (.str [])))⟩, ⟨(some 6), none, (.mv (.c (.bool false)))⟩]) .ret) .skip)) (.seq (.ops [⟨(some 38), none, (.mv (.t 7))⟩, ⟨(some 39), none, (.mv (.t 8))⟩, ⟨(some 4), none, (.mv (.t 38))⟩, ⟨(some 5), none, (.mv (.t 39))⟩, ⟨(some 6), none, (.mv (.c (.bool true)))⟩]) .ret)))))
theorem tr85 : Tryz.f85.body.bind (trCode Tryz.prog) = some (strip ac85) := by kernel_rfl
theorem spec85 (s : List UInt8) (hb : s.length ≤ 100000) : Spec Tryz.prog 85 [.fz (.str s), .fz (.str [64, 33])] (.fz (.tup [.str (if markX s = true then cut1 (s.drop 1) else []), .str (if markX s = true then cut2 (s.drop 1) else []), .bool (markX s)])) := by
  refine spec_at (n := 38) (ars := [(.t 4), (.t 5), (.t 6)]) (ac := ac85) Tryz.func85 (by kernel_rfl) (by kernel_rfl) tr85 (by kernel_rfl) ?_
  unfold ac85
  cases s with
  | nil =>
    iterate 30 (all_goals (try (first
      | (with_reducible refine ite_in (fun _ => ?_) (fun _ => ?_))
      | (with_reducible refine ⟨fun _ => ?_, fun _ => ?_⟩)
      | (with_reducible refine And.intro ?_ ?_)
      | (with_reducible intro _)
      | (with_reducible exact is_in _)
      | (simp -implicitDefEqProofs only [SD, SF, SL, e_nf, reduceCtorEq, implies_true, ↓reduceIte, Nat.reduceEqDiff, Nat.reduceAdd, Nat.reduceMul, Nat.reduceSub, Nat.reduceLeDiff, Nat.reduceLT, Int.reduceLT, Int.reduceLE, Int.reduceEq, Int.reduceToNat, Int.reduceAdd, Int.reduceSub, Int.reduceNeg, Int.reduceBEq, Int.reduceBNe, Nat.reduceBEq, Int.cast_ofNat_Int, decide_true, decide_false, ne_eq, eq_self_iff_true, beq_eq_false_iff_ne, bne_iff_ne, List.replicate, *]))))
    all_goals (first | rfl | decide)
  | cons x t =>
    have hbt : t.length ≤ 100000 := by simp at hb; omega
    have ht : (List.drop 1 (x :: t)) = t := rfl
    have hs0 : (x :: t).getD 0 0 = x := rfl
    have hs1 : (0 : Int) < ((x :: t).length : Int) := cons_lt x t
    have hs2 : 1 ≤ (x :: t).length := cons_le x t
    have hs3 : ¬ (x :: t) = [] := by simp
    rw [markX_cons, ht]
    generalize (x :: t) = s at *
    by_cases h64 : x = 64
    · have hmk : Lib.indexByte [64, 33] x.toNat.toUInt8 = 0 := by rw [mark_at']; simp [h64]
      rw [show decide (x = 64 ∨ x = 33) = true by simp [h64], Bool.true_and]
      clear h64
      iterate 30 (all_goals (try (first
        | ((with_reducible refine of_kSpec ?_); refine call_fz (spec95 [64, 33] _) rfl ?_)
        | ((with_reducible refine of_kSpec ?_); refine call_fz (spec96 t hbt) rfl ?_)
        | ((with_reducible refine of_kSpec ?_); refine call_fz (spec97 _) rfl ?_)
        | ((with_reducible refine of_kSpec ?_); refine call_fz (spec98 _) rfl ?_)
        | (with_reducible refine ite_in (fun _ => ?_) (fun _ => ?_))
        | (with_reducible refine ⟨fun _ => ?_, fun _ => ?_⟩)
        | (with_reducible refine And.intro ?_ ?_)
        | (with_reducible intro _)
        | (with_reducible exact is_in _)
        | ((with_reducible refine eq_in ?_); (simp_all [nameOK]); done)
        | (simp -implicitDefEqProofs only [SD, SF, SL, e_nf, reduceCtorEq, implies_true, ↓reduceIte, Nat.reduceEqDiff, Nat.reduceAdd, Nat.reduceMul, Nat.reduceSub, Nat.reduceLeDiff, Nat.reduceLT, Int.reduceLT, Int.reduceLE, Int.reduceEq, Int.reduceToNat, Int.reduceAdd, Int.reduceSub, Int.reduceNeg, Int.reduceBEq, Int.reduceBNe, Nat.reduceBEq, Int.cast_ofNat_Int, decide_true, decide_false, ne_eq, eq_self_iff_true, beq_eq_false_iff_ne, bne_iff_ne, List.replicate, Int.toNat_natCast, List.take_length, *]))))
      all_goals (simp_all [nameOK])
    · by_cases h33 : x = 33
      · have hmk : Lib.indexByte [64, 33] x.toNat.toUInt8 = 1 := by rw [mark_at']; simp [h64, h33]
        rw [show decide (x = 64 ∨ x = 33) = true by simp [h33], Bool.true_and]
        clear h64 h33
        iterate 30 (all_goals (try (first
          | ((with_reducible refine of_kSpec ?_); refine call_fz (spec95 [64, 33] _) rfl ?_)
          | ((with_reducible refine of_kSpec ?_); refine call_fz (spec96 t hbt) rfl ?_)
          | ((with_reducible refine of_kSpec ?_); refine call_fz (spec97 _) rfl ?_)
          | ((with_reducible refine of_kSpec ?_); refine call_fz (spec98 _) rfl ?_)
          | (with_reducible refine ite_in (fun _ => ?_) (fun _ => ?_))
          | (with_reducible refine ⟨fun _ => ?_, fun _ => ?_⟩)
          | (with_reducible refine And.intro ?_ ?_)
          | (with_reducible intro _)
          | (with_reducible exact is_in _)
          | ((with_reducible refine eq_in ?_); (simp_all [nameOK]); done)
          | (simp -implicitDefEqProofs only [SD, SF, SL, e_nf, reduceCtorEq, implies_true, ↓reduceIte, Nat.reduceEqDiff, Nat.reduceAdd, Nat.reduceMul, Nat.reduceSub, Nat.reduceLeDiff, Nat.reduceLT, Int.reduceLT, Int.reduceLE, Int.reduceEq, Int.reduceToNat, Int.reduceAdd, Int.reduceSub, Int.reduceNeg, Int.reduceBEq, Int.reduceBNe, Nat.reduceBEq, Int.cast_ofNat_Int, decide_true, decide_false, ne_eq, eq_self_iff_true, beq_eq_false_iff_ne, bne_iff_ne, List.replicate, Int.toNat_natCast, List.take_length, *]))))
        all_goals (simp_all [nameOK])
      · have hmk : Lib.indexByte [64, 33] x.toNat.toUInt8 = -1 := by rw [mark_at']; simp [h64, h33]
        rw [show decide (x = 64 ∨ x = 33) = false by simp [h64, h33], Bool.false_and]
        clear h64 h33
        iterate 30 (all_goals (try (first
          | ((with_reducible refine of_kSpec ?_); refine call_fz (spec95 [64, 33] _) rfl ?_)
          | (with_reducible refine ite_in (fun _ => ?_) (fun _ => ?_))
          | (with_reducible refine ⟨fun _ => ?_, fun _ => ?_⟩)
          | (with_reducible refine And.intro ?_ ?_)
          | (with_reducible intro _)
          | (with_reducible exact is_in _)
          | ((with_reducible refine eq_in ?_); (simp_all [nameOK]); done)
          | (simp -implicitDefEqProofs only [SD, SF, SL, e_nf, reduceCtorEq, implies_true, ↓reduceIte, Nat.reduceEqDiff, Nat.reduceAdd, Nat.reduceMul, Nat.reduceSub, Nat.reduceLeDiff, Nat.reduceLT, Int.reduceLT, Int.reduceLE, Int.reduceEq, Int.reduceToNat, Int.reduceAdd, Int.reduceSub, Int.reduceNeg, Int.reduceBEq, Int.reduceBNe, Nat.reduceBEq, Int.cast_ofNat_Int, decide_true, decide_false, ne_eq, eq_self_iff_true, beq_eq_false_iff_ne, bne_iff_ne, List.replicate, Int.toNat_natCast, List.take_length, *]))))
        all_goals (simp_all [nameOK])

def ac69 : AC := (.seq (.ops [⟨(some 2), none, (.mv (.c (.str [])))⟩]) (.seq (.ops [⟨(some 7), none, (.mv (.t 0))⟩, ⟨(some 8), none, (.call false 85 [(.t 7), (.c (.str [64, 33]))])⟩, ⟨(some 6), none, (.mv (.t 8))⟩, ⟨(some 9), none, (.ext (.t 6) 0)⟩, ⟨(some 10), none, (.ext (.t 6) 1)⟩, ⟨(some 11), none, (.ext (.t 6) 2)⟩, ⟨(some 3), none, (.mv (.t 9))⟩, ⟨(some 4), none, (.mv (.t 10))⟩, ⟨(some 5), none, (.mv (.t 11))⟩]) (.seq (.ops [⟨(some 12), none, (.mv (.t 4))⟩, ⟨(some 2), none, (.mv (.t 12))⟩]) .ret)))
theorem tr69 : Tryz.f69.body.bind (trCode Tryz.prog) = some (strip ac69) := by kernel_rfl
theorem spec69 (s : List UInt8) (hb : s.length ≤ 100000) : Spec Tryz.prog 69 [.fz (.str s)] (.fz (.str (srvOf s))) := by
  refine spec_at (n := 12) (ars := [(.t 2)]) (ac := ac69) Tryz.func69 (by kernel_rfl) (by kernel_rfl) tr69 (by kernel_rfl) ?_
  unfold ac69
  iterate 30 (all_goals (try (first
    | ((with_reducible refine of_kSpec ?_); refine call_fz (spec85 s hb) rfl ?_)
    | (with_reducible refine ite_in (fun _ => ?_) (fun _ => ?_))
    | (with_reducible refine ⟨fun _ => ?_, fun _ => ?_⟩)
    | (with_reducible refine And.intro ?_ ?_)
    | (with_reducible intro _)
    | (with_reducible exact is_in _)
    | (simp -implicitDefEqProofs only [SD, SF, SL, e_nf, reduceCtorEq, implies_true, ↓reduceIte, Nat.reduceEqDiff, Nat.reduceAdd, Nat.reduceMul, Nat.reduceSub, Nat.reduceLeDiff, Nat.reduceLT, Int.reduceLT, Int.reduceLE, Int.reduceEq, Int.reduceToNat, Int.reduceAdd, Int.reduceSub, Int.reduceNeg, Int.reduceBEq, Int.reduceBNe, Nat.reduceBEq, Int.cast_ofNat_Int, decide_true, decide_false, ne_eq, eq_self_iff_true, beq_eq_false_iff_ne, bne_iff_ne, List.replicate, *]))))
  all_goals (first | rfl | simp [srvOf, markX])
def ac49 : AC := (.seq (.ops [⟨(some 4), none, (.mv (.c (.bool false)))⟩]) (.seq (.seq (.ops [⟨(some 6), none, (.mv (.t 0))⟩, ⟨(some 7), none, (.lens (.t 6))⟩, ⟨(some 8), none, (.bin .lss (.t 7) (.c (.int .i64 1)))⟩, ⟨(some 9), none, (.mv (.t 8))⟩, ⟨(some 10), (some (9, false)), (.mv (.t 0))⟩, ⟨(some 11), (some (9, false)), (.ixs (.t 10) (.c (.int .i64 0)))⟩, ⟨(some 12), (some (9, false)), (.mv (.t 1))⟩, ⟨(some 13), (some (9, false)), (.bin .neq (.t 11) (.t 12))⟩, ⟨(some 14), none, (.pick (.t 9) (.c (.bool true)) (.t 13))⟩]) (.cond (.t 14) (.seq (.ops [⟨(some 4), none, (.mv (.c (.bool false)))⟩]) .ret) .skip)) (.seq (.ops [⟨(some 15), none, (.mv (.t 0))⟩, ⟨(some 16), none, (.call false 50 [(.t 15)])⟩, ⟨(some 5), none, (.mv (.t 16))⟩]) (.seq (.ops [⟨(some 17), none, (.mv (.t 5))⟩, ⟨(some 18), none, (.mv (.t 0))⟩, ⟨(some 19), none, (.lens (.t 18))⟩, ⟨(some 20), none, (.bin .lss (.t 17) (.t 19))⟩, ⟨(some 21), none, (.mv (.t 20))⟩, ⟨(some 22), (some (21, true)), (.mv (.t 0))⟩, ⟨(some 23), (some (21, true)), (.mv (.t 5))⟩, ⟨(some 24), (some (21, true)), (.subs (.t 22) (some (.c (.int .i64 1))) (some (.t 23)))⟩, ⟨(some 25), (some (21, true)), (.call false 74 [(.t 24)])⟩, ⟨(some 26), none, (.pick (.t 21) (.t 25) (.c (.bool false)))⟩, ⟨(some 27), none, (.mv (.t 26))⟩, ⟨(some 28), (some (27, true)), (.mv (.t 0))⟩, ⟨(some 29), (some (27, true)), (.mv (.t 5))⟩, ⟨(some 30), (some (27, true)), (.bin .add (.t 29) (.c (.int .i64 1)))⟩, ⟨(some 31), (some (27, true)), (.subs (.t 28) (some (.t 30)) none)⟩, ⟨(some 32), (some (27, true)), (.call false 75 [(.t 31)])⟩, ⟨(some 33), (some (27, true)), (.bin .eql (.t 32) (.c (.int .i64 0)))⟩, ⟨(some 34), none, (.pick (.t 27) (.t 33) (.c (.bool false)))⟩, ⟨(some 4), none, (.mv (.t 34))⟩]) .ret))))
theorem tr49 : Tryz.f49.body.bind (trCode Tryz.prog) = some (strip ac49) := by kernel_rfl
theorem spec64_49 (s : List UInt8) (hb : s.length ≤ 100000) : Spec Tryz.prog 49 [.fz (.str s), .fz (.int .u8 64)] (.fz (.bool (markB s 64))) := by
  refine spec_at (n := 33) (ars := [(.t 4)]) (ac := ac49) Tryz.func49 (by kernel_rfl) (by kernel_rfl) tr49 (by kernel_rfl) ?_
  unfold ac49
  cases s with
  | nil =>
    iterate 30 (all_goals (try (first
      | (with_reducible refine ite_in (fun _ => ?_) (fun _ => ?_))
      | (with_reducible refine ⟨fun _ => ?_, fun _ => ?_⟩)
      | (with_reducible refine And.intro ?_ ?_)
      | (with_reducible intro _)
      | (with_reducible exact is_in _)
      | (simp -implicitDefEqProofs only [SD, SF, SL, e_nf, reduceCtorEq, implies_true, ↓reduceIte, Nat.reduceEqDiff, Nat.reduceAdd, Nat.reduceMul, Nat.reduceSub, Nat.reduceLeDiff, Nat.reduceLT, Int.reduceLT, Int.reduceLE, Int.reduceEq, Int.reduceToNat, Int.reduceAdd, Int.reduceSub, Int.reduceNeg, Int.reduceBEq, Int.reduceBNe, Nat.reduceBEq, Int.cast_ofNat_Int, decide_true, decide_false, ne_eq, eq_self_iff_true, beq_eq_false_iff_ne, bne_iff_ne, List.replicate, markB, *]))))
  | cons x t =>
    have hm : markB (x :: t) 64 = (decide (x = 64) && nameOK t) := by simp only [markB, u64]
    rw [hm]
    have hs0 : (x :: t).getD 0 0 = x := rfl
    have hs1 : (1 : Int) ≤ ((x :: t).length : Int) := by have := cons_lt x t; omega
    have hs4 : (0 : Int) < ((x :: t).length : Int) := by have := cons_lt x t; omega
    have hs2 : ((x :: t).length : Int) = ((t.length + 1 : Nat) : Int) := by simp
    by_cases h64 : x = 64
    · have hcc : colonN (x :: t) = colonN t + 1 := by
        rw [colon_cons, if_neg]
        rw [h64]
        decide
      have hle := colon_le t
      have hxn : (x.toNat : Int) = 64 := by rw [h64]; rfl
      rw [show decide (x = 64) = true by simp [h64], Bool.true_and]
      clear h64
      have hw : IntKind.i64.wrap (((colonN t + 1 : Nat) : Int) + 1) = ((colonN t + 2 : Nat) : Int) := by
        simp only [List.length_cons] at hb
        rw [wrap_in (by omega) (by omega)]
        omega
      have h1 : (List.take (colonN t + 1) (x :: t)).drop 1 = t.take (colonN t) := by simp
      have h2 : (x :: t).drop (colonN t + 2) = t.drop (colonN t + 1) := by simp
      have h3 : colonN t + 1 ≤ (x :: t).length := by simp; omega
      have h4 : (1 : Nat) ≤ colonN t + 1 := by omega
      by_cases hc : colonN t < t.length
      · have h6 : ((colonN t + 1 : Nat) : Int) < ((x :: t).length : Int) := by omega
        have h7 : colonN t + 2 ≤ (x :: t).length := by simp; omega
        have h8 : nameOK t = (localB (t.take (colonN t)) && serverB (t.drop (colonN t + 1))) := by simp [nameOK, cut1, cut2, cut3, hc]
        clear hs2
        generalize (x :: t) = s at *
        iterate 30 (all_goals (try (first
          | ((with_reducible refine of_kSpec ?_); refine call_fz (spec50 s) rfl ?_)
          | ((with_reducible refine of_kSpec ?_); refine call_fz (spec74 _) rfl ?_)
          | ((with_reducible refine of_kSpec ?_); refine call_fz (spec75 _) rfl ?_)
          | (with_reducible refine ite_in (fun _ => ?_) (fun _ => ?_))
          | (with_reducible refine ⟨fun _ => ?_, fun _ => ?_⟩)
          | (with_reducible refine And.intro ?_ ?_)
          | (with_reducible intro _)
          | (with_reducible exact is_in _)
          | ((with_reducible refine eq_in ?_); (first | (simp_all; done) | omega); done)
          | (simp -implicitDefEqProofs only [SD, SF, SL, e_nf, reduceCtorEq, implies_true, ↓reduceIte, Nat.reduceEqDiff, Nat.reduceAdd, Nat.reduceMul, Nat.reduceSub, Nat.reduceLeDiff, Nat.reduceLT, Int.reduceLT, Int.reduceLE, Int.reduceEq, Int.reduceToNat, Int.reduceAdd, Int.reduceSub, Int.reduceNeg, Int.reduceBEq, Int.reduceBNe, Nat.reduceBEq, Int.cast_ofNat_Int, decide_true, decide_false, ne_eq, eq_self_iff_true, beq_eq_false_iff_ne, bne_iff_ne, List.replicate, Int.toNat_natCast, List.take_length, *]))))
        all_goals (first | (simp_all; done) | omega)
      · have h6 : ¬ ((colonN t + 1 : Nat) : Int) < ((x :: t).length : Int) := by omega
        have h8 : nameOK t = false := by simp [nameOK, cut3, hc]
        clear hs2
        generalize (x :: t) = s at *
        iterate 30 (all_goals (try (first
          | ((with_reducible refine of_kSpec ?_); refine call_fz (spec50 s) rfl ?_)
          | (with_reducible refine ite_in (fun _ => ?_) (fun _ => ?_))
          | (with_reducible refine ⟨fun _ => ?_, fun _ => ?_⟩)
          | (with_reducible refine And.intro ?_ ?_)
          | (with_reducible intro _)
          | (with_reducible exact is_in _)
          | ((with_reducible refine eq_in ?_); (first | (simp_all; done) | omega); done)
          | (simp -implicitDefEqProofs only [SD, SF, SL, e_nf, reduceCtorEq, implies_true, ↓reduceIte, Nat.reduceEqDiff, Nat.reduceAdd, Nat.reduceMul, Nat.reduceSub, Nat.reduceLeDiff, Nat.reduceLT, Int.reduceLT, Int.reduceLE, Int.reduceEq, Int.reduceToNat, Int.reduceAdd, Int.reduceSub, Int.reduceNeg, Int.reduceBEq, Int.reduceBNe, Nat.reduceBEq, Int.cast_ofNat_Int, decide_true, decide_false, ne_eq, eq_self_iff_true, beq_eq_false_iff_ne, bne_iff_ne, List.replicate, Int.toNat_natCast, List.take_length, *]))))
        all_goals (first | (simp_all; done) | omega)
    · have hxn : ¬ (x.toNat : Int) = 64 := by
        intro h
        apply h64
        apply UInt8.toNat_inj.1
        exact_mod_cast h
      rw [show decide (x = 64) = false by simp [h64], Bool.false_and]
      clear hm hs2 h64
      generalize (x :: t) = s at *
      iterate 30 (all_goals (try (first
        | (with_reducible refine ite_in (fun _ => ?_) (fun _ => ?_))
        | (with_reducible refine ⟨fun _ => ?_, fun _ => ?_⟩)
        | (with_reducible refine And.intro ?_ ?_)
        | (with_reducible intro _)
        | (with_reducible exact is_in _)
        | ((with_reducible refine eq_in ?_); (first | (simp_all; done) | omega); done)
        | (simp -implicitDefEqProofs only [SD, SF, SL, e_nf, reduceCtorEq, implies_true, ↓reduceIte, Nat.reduceEqDiff, Nat.reduceAdd, Nat.reduceMul, Nat.reduceSub, Nat.reduceLeDiff, Nat.reduceLT, Int.reduceLT, Int.reduceLE, Int.reduceEq, Int.reduceToNat, Int.reduceAdd, Int.reduceSub, Int.reduceNeg, Int.reduceBEq, Int.reduceBNe, Nat.reduceBEq, Int.cast_ofNat_Int, decide_true, decide_false, ne_eq, eq_self_iff_true, beq_eq_false_iff_ne, bne_iff_ne, List.replicate, Int.toNat_natCast, List.take_length, *]))))
      all_goals (first | (simp_all; done) | omega)

theorem spec33_49 (s : List UInt8) (hb : s.length ≤ 100000) : Spec Tryz.prog 49 [.fz (.str s), .fz (.int .u8 33)] (.fz (.bool (markB s 33))) := by
  refine spec_at (n := 33) (ars := [(.t 4)]) (ac := ac49) Tryz.func49 (by kernel_rfl) (by kernel_rfl) tr49 (by kernel_rfl) ?_
  unfold ac49
  cases s with
  | nil =>
    iterate 30 (all_goals (try (first
      | (with_reducible refine ite_in (fun _ => ?_) (fun _ => ?_))
      | (with_reducible refine ⟨fun _ => ?_, fun _ => ?_⟩)
      | (with_reducible refine And.intro ?_ ?_)
      | (with_reducible intro _)
      | (with_reducible exact is_in _)
      | (simp -implicitDefEqProofs only [SD, SF, SL, e_nf, reduceCtorEq, implies_true, ↓reduceIte, Nat.reduceEqDiff, Nat.reduceAdd, Nat.reduceMul, Nat.reduceSub, Nat.reduceLeDiff, Nat.reduceLT, Int.reduceLT, Int.reduceLE, Int.reduceEq, Int.reduceToNat, Int.reduceAdd, Int.reduceSub, Int.reduceNeg, Int.reduceBEq, Int.reduceBNe, Nat.reduceBEq, Int.cast_ofNat_Int, decide_true, decide_false, ne_eq, eq_self_iff_true, beq_eq_false_iff_ne, bne_iff_ne, List.replicate, markB, *]))))
  | cons x t =>
    have hm : markB (x :: t) 33 = (decide (x = 33) && nameOK t) := by simp only [markB, u33]
    rw [hm]
    have hs0 : (x :: t).getD 0 0 = x := rfl
    have hs1 : (1 : Int) ≤ ((x :: t).length : Int) := by have := cons_lt x t; omega
    have hs4 : (0 : Int) < ((x :: t).length : Int) := by have := cons_lt x t; omega
    have hs2 : ((x :: t).length : Int) = ((t.length + 1 : Nat) : Int) := by simp
    by_cases h64 : x = 33
    · have hcc : colonN (x :: t) = colonN t + 1 := by
        rw [colon_cons, if_neg]
        rw [h64]
        decide
      have hle := colon_le t
      have hxn : (x.toNat : Int) = 33 := by rw [h64]; rfl
      rw [show decide (x = 33) = true by simp [h64], Bool.true_and]
      clear h64
      have hw : IntKind.i64.wrap (((colonN t + 1 : Nat) : Int) + 1) = ((colonN t + 2 : Nat) : Int) := by
        simp only [List.length_cons] at hb
        rw [wrap_in (by omega) (by omega)]
        omega
      have h1 : (List.take (colonN t + 1) (x :: t)).drop 1 = t.take (colonN t) := by simp
      have h2 : (x :: t).drop (colonN t + 2) = t.drop (colonN t + 1) := by simp
      have h3 : colonN t + 1 ≤ (x :: t).length := by simp; omega
      have h4 : (1 : Nat) ≤ colonN t + 1 := by omega
      by_cases hc : colonN t < t.length
      · have h6 : ((colonN t + 1 : Nat) : Int) < ((x :: t).length : Int) := by omega
        have h7 : colonN t + 2 ≤ (x :: t).length := by simp; omega
        have h8 : nameOK t = (localB (t.take (colonN t)) && serverB (t.drop (colonN t + 1))) := by simp [nameOK, cut1, cut2, cut3, hc]
        clear hs2
        generalize (x :: t) = s at *
        iterate 30 (all_goals (try (first
          | ((with_reducible refine of_kSpec ?_); refine call_fz (spec50 s) rfl ?_)
          | ((with_reducible refine of_kSpec ?_); refine call_fz (spec74 _) rfl ?_)
          | ((with_reducible refine of_kSpec ?_); refine call_fz (spec75 _) rfl ?_)
          | (with_reducible refine ite_in (fun _ => ?_) (fun _ => ?_))
          | (with_reducible refine ⟨fun _ => ?_, fun _ => ?_⟩)
          | (with_reducible refine And.intro ?_ ?_)
          | (with_reducible intro _)
          | (with_reducible exact is_in _)
          | ((with_reducible refine eq_in ?_); (first | (simp_all; done) | omega); done)
          | (simp -implicitDefEqProofs only [SD, SF, SL, e_nf, reduceCtorEq, implies_true, ↓reduceIte, Nat.reduceEqDiff, Nat.reduceAdd, Nat.reduceMul, Nat.reduceSub, Nat.reduceLeDiff, Nat.reduceLT, Int.reduceLT, Int.reduceLE, Int.reduceEq, Int.reduceToNat, Int.reduceAdd, Int.reduceSub, Int.reduceNeg, Int.reduceBEq, Int.reduceBNe, Nat.reduceBEq, Int.cast_ofNat_Int, decide_true, decide_false, ne_eq, eq_self_iff_true, beq_eq_false_iff_ne, bne_iff_ne, List.replicate, Int.toNat_natCast, List.take_length, *]))))
        all_goals (first | (simp_all; done) | omega)
      · have h6 : ¬ ((colonN t + 1 : Nat) : Int) < ((x :: t).length : Int) := by omega
        have h8 : nameOK t = false := by simp [nameOK, cut3, hc]
        clear hs2
        generalize (x :: t) = s at *
        iterate 30 (all_goals (try (first
          | ((with_reducible refine of_kSpec ?_); refine call_fz (spec50 s) rfl ?_)
          | (with_reducible refine ite_in (fun _ => ?_) (fun _ => ?_))
          | (with_reducible refine ⟨fun _ => ?_, fun _ => ?_⟩)
          | (with_reducible refine And.intro ?_ ?_)
          | (with_reducible intro _)
          | (with_reducible exact is_in _)
          | ((with_reducible refine eq_in ?_); (first | (simp_all; done) | omega); done)
          | (simp -implicitDefEqProofs only [SD, SF, SL, e_nf, reduceCtorEq, implies_true, ↓reduceIte, Nat.reduceEqDiff, Nat.reduceAdd, Nat.reduceMul, Nat.reduceSub, Nat.reduceLeDiff, Nat.reduceLT, Int.reduceLT, Int.reduceLE, Int.reduceEq, Int.reduceToNat, Int.reduceAdd, Int.reduceSub, Int.reduceNeg, Int.reduceBEq, Int.reduceBNe, Nat.reduceBEq, Int.cast_ofNat_Int, decide_true, decide_false, ne_eq, eq_self_iff_true, beq_eq_false_iff_ne, bne_iff_ne, List.replicate, Int.toNat_natCast, List.take_length, *]))))
        all_goals (first | (simp_all; done) | omega)
    · have hxn : ¬ (x.toNat : Int) = 33 := by
        intro h
        apply h64
        apply UInt8.toNat_inj.1
        exact_mod_cast h
      rw [show decide (x = 33) = false by simp [h64], Bool.false_and]
      clear hm hs2 h64
      generalize (x :: t) = s at *
      iterate 30 (all_goals (try (first
        | (with_reducible refine ite_in (fun _ => ?_) (fun _ => ?_))
        | (with_reducible refine ⟨fun _ => ?_, fun _ => ?_⟩)
        | (with_reducible refine And.intro ?_ ?_)
        | (with_reducible intro _)
        | (with_reducible exact is_in _)
        | ((with_reducible refine eq_in ?_); (first | (simp_all; done) | omega); done)
        | (simp -implicitDefEqProofs only [SD, SF, SL, e_nf, reduceCtorEq, implies_true, ↓reduceIte, Nat.reduceEqDiff, Nat.reduceAdd, Nat.reduceMul, Nat.reduceSub, Nat.reduceLeDiff, Nat.reduceLT, Int.reduceLT, Int.reduceLE, Int.reduceEq, Int.reduceToNat, Int.reduceAdd, Int.reduceSub, Int.reduceNeg, Int.reduceBEq, Int.reduceBNe, Nat.reduceBEq, Int.cast_ofNat_Int, decide_true, decide_false, ne_eq, eq_self_iff_true, beq_eq_false_iff_ne, bne_iff_ne, List.replicate, Int.toNat_natCast, List.take_length, *]))))
      all_goals (first | (simp_all; done) | omega)


end Go.Proofs.YtcolebkklojccaaGreat.E
