/-
  AuE: walks of functions of the program at data level.
-/
import Derived.Test.YtcolebkklojccaaGreatProg
import Derived.Test.YtcolebkklojccaaGreatEngZ
import Derived.Test.YtcolebkklojccaaGreatAuA
import Derived.KernelRfl
set_option linter.unusedVariables false
set_option linter.unusedSimpArgs false
namespace Go.Proofs.YtcolebkklojccaaGreat.E
open Go
set_option maxHeartbeats 4000000
set_option maxRecDepth 100000
set_option linter.unusedSimpArgs false
set_option linter.unusedVariables false
attribute [local congr] c_wp c_ops c_op c_opS c_run c_runS c_dt c_seq c_blk c_loop c_S c_put c_bind c_mv c_pick c_nt c_ng c_bin c_binI c_binS c_beq c_B c_eqa c_hd c_cells c_blkK c_box c_vec c_mp c_nck c_mks c_appn c_mkm c_mput c_mlk c_mrm c_take c_ld c_ldF c_cellsK c_st c_fld c_fldv c_ix c_ixp c_ixv c_ixs c_sub c_subs c_len c_lens c_src c_dst c_ow c_app c_ext c_mm c_conv c_str c_isn c_fill c_rows c_boxo c_frz c_frzO c_frzA c_frzV c_spec c_specO c_opsP c_opP c_runP c_specP c_Z c_qretP c_fz c_fn c_gv c_cond c_res1 c_resL c_ret c_qret c_ite c_unr c_nx c_bk c_cut c_is
attribute [local irreducible] dwp

def rulesL : List Ev → Int × List (List UInt8)
  | [] => (0, [])
  | e :: l => if e.kind = 4 then (e.n, e.allow) else rulesL l
def joinR (rule now : Int) : Int := if now = 3 then 0 else if rule = 1 then 0 else if (rule = 2 ∨ rule = 3 ∨ rule = 0) ∧ now = 1 then 0 else 21
def knockR (rule now : Int) : Int := if rule = 2 ∧ (now = 0 ∨ now = 2) then 0 else 21
def memberL : List Ev → List UInt8 → Int
  | [], _ => 0
  | e :: l, u => if e.kind = 2 ∧ e.key = u then e.n else memberL l u
def moveR (a b : Int) (self : Bool) : Bool := decide (0 ≤ a ∧ a ≤ 4 ∧ ((b = 3 ∧ self = true ∧ a ≠ 4) ∨ (b = 0 ∧ (a = 1 ∨ a = 2 ∨ a = 3 ∨ (a = 4 ∧ self = false))) ∨ (b = 2 ∧ self = true ∧ (a = 0 ∨ a = 2)) ∨ (b = 1 ∧ self = false ∧ (a = 0 ∨ a = 2 ∨ a = 1)) ∨ (b = 4 ∧ self = false)))
def ac100 : AC := (.seq (.ops [⟨(some 4), none, (.mv (.c (.int .i64 0)))⟩]) (.seq (.seq (.ops [⟨(some 5), none, (.mv (.t 1))⟩, ⟨(some 6), none, (.bin .eql (.t 5) (.c (.int .i64 3)))⟩]) (.cond (.t 6) (.seq (.ops [⟨(some 4), none, (.mv (.c (.int .i64 0)))⟩]) .ret) .skip)) (.seq (.seq (.ops [⟨(some 7), none, (.mv (.t 0))⟩]) (.block 0 (.seq (.block 4 (.block 3 (.block 2 (.seq (.block 1 (.seq (.seq (.seq (.ops [⟨(some 9), none, (.bin .eql (.t 7) (.c (.int .i64 1)))⟩, ⟨(some 8), none, (.mv (.t 9))⟩]) (.cond (.t 8) (.exit 1) .skip)) (.seq (.seq (.ops [⟨(some 11), none, (.bin .eql (.t 7) (.c (.int .i64 2)))⟩, ⟨(some 10), none, (.mv (.t 11))⟩]) (.cond (.t 10) (.exit 2) .skip)) (.seq (.seq (.ops [⟨(some 13), none, (.bin .eql (.t 7) (.c (.int .i64 3)))⟩, ⟨(some 12), none, (.mv (.t 13))⟩]) (.cond (.t 12) (.exit 3) .skip)) (.seq (.ops [⟨(some 15), none, (.bin .eql (.t 7) (.c (.int .i64 0)))⟩, ⟨(some 14), none, (.mv (.t 15))⟩]) (.cond (.t 14) (.exit 4) .skip))))) (.exit 0))) (.seq (.seq (.ops [⟨(some 4), none, (.mv (.c (.int .i64 0)))⟩]) .ret) (.exit 0)))))) (.seq (.seq (.ops [⟨(some 16), none, (.mv (.t 1))⟩, ⟨(some 17), none, (.bin .eql (.t 16) (.c (.int .i64 1)))⟩]) (.cond (.t 17) (.seq (.ops [⟨(some 4), none, (.mv (.c (.int .i64 0)))⟩]) .ret) .skip)) (.exit 0))))) (.seq (.ops [⟨(some 4), none, (.mv (.c (.int .i64 21)))⟩]) .ret))))
theorem tr100 : Tryz.f100.body.bind (trCode Tryz.prog) = some (strip ac100) := by kernel_rfl
theorem spec100 (rule now : Int) : Spec Tryz.prog 100 [.fz (.int .i64 rule), .fz (.int .i64 now)] (.fz (.int .i64 (joinR rule now))) := by
  refine spec_at (n := 16) (ars := [(.t 4)]) (ac := ac100) Tryz.func100 (by kernel_rfl) (by kernel_rfl) tr100 (by kernel_rfl) ?_
  unfold ac100
  iterate 30 (all_goals (try (first
    | (with_reducible refine ite_in (fun _ => ?_) (fun _ => ?_))
    | (with_reducible refine ⟨fun _ => ?_, fun _ => ?_⟩)
    | (with_reducible refine And.intro ?_ ?_)
    | (with_reducible intro _)
    | (with_reducible exact is_in _)
    | (simp -implicitDefEqProofs only [SD, SF, SL, e_nf, reduceCtorEq, implies_true, ↓reduceIte, Nat.reduceEqDiff, Nat.reduceAdd, Nat.reduceMul, Nat.reduceSub, Nat.reduceLeDiff, Nat.reduceLT, Int.reduceLT, Int.reduceLE, Int.reduceEq, Int.reduceToNat, Int.reduceAdd, Int.reduceSub, Int.reduceNeg, Int.reduceBEq, Int.reduceBNe, Nat.reduceBEq, Int.cast_ofNat_Int, decide_true, decide_false, ne_eq, eq_self_iff_true, beq_eq_false_iff_ne, bne_iff_ne, List.replicate, *]))))
  all_goals (first | (simp_all [joinR]; done) | grind [joinR])
def ac78 : AC := (.seq (.ops [⟨(some 4), none, (.mv (.c (.int .i64 0)))⟩]) (.seq (.seq (.ops [⟨(some 5), none, (.mv (.t 1))⟩, ⟨(some 6), none, (.bin .eql (.t 5) (.c (.int .i64 3)))⟩, ⟨(some 7), none, (.mv (.t 6))⟩, ⟨(some 8), (some (7, false)), (.mv (.t 0))⟩, ⟨(some 9), (some (7, false)), (.bin .eql (.t 8) (.c (.int .i64 1)))⟩, ⟨(some 10), none, (.pick (.t 7) (.c (.bool true)) (.t 9))⟩]) (.cond (.t 10) (.seq (.ops [⟨(some 4), none, (.mv (.c (.int .i64 0)))⟩]) .ret) .skip)) (.seq (.seq (.ops [⟨(some 11), none, (.mv (.t 1))⟩, ⟨(some 12), none, (.bin .eql (.t 11) (.c (.int .i64 1)))⟩, ⟨(some 13), none, (.mv (.t 12))⟩, ⟨(some 14), (some (13, true)), (.mv (.t 0))⟩, ⟨(some 15), (some (13, true)), (.bin .eql (.t 14) (.c (.int .i64 0)))⟩, ⟨(some 16), (some (13, true)), (.mv (.t 15))⟩, ⟨(some 17), (some (16, false)), (.mv (.t 0))⟩, ⟨(some 18), (some (16, false)), (.bin .eql (.t 17) (.c (.int .i64 2)))⟩, ⟨(some 19), (some (13, true)), (.pick (.t 16) (.c (.bool true)) (.t 18))⟩, ⟨(some 20), (some (13, true)), (.mv (.t 19))⟩, ⟨(some 21), (some (20, false)), (.mv (.t 0))⟩, ⟨(some 22), (some (20, false)), (.bin .eql (.t 21) (.c (.int .i64 3)))⟩, ⟨(some 23), (some (13, true)), (.pick (.t 20) (.c (.bool true)) (.t 22))⟩, ⟨(some 24), none, (.pick (.t 13) (.t 23) (.c (.bool false)))⟩]) (.cond (.t 24) (.seq (.ops [⟨(some 4), none, (.mv (.c (.int .i64 0)))⟩]) .ret) .skip)) (.seq (.ops [⟨(some 4), none, (.mv (.c (.int .i64 21)))⟩]) .ret))))
theorem tr78 : Tryz.f78.body.bind (trCode Tryz.prog) = some (strip ac78) := by kernel_rfl
theorem spec78 (rule now : Int) : Spec Tryz.prog 78 [.fz (.int .i64 rule), .fz (.int .i64 now)] (.fz (.int .i64 (joinR rule now))) := by
  refine spec_at (n := 23) (ars := [(.t 4)]) (ac := ac78) Tryz.func78 (by kernel_rfl) (by kernel_rfl) tr78 (by kernel_rfl) ?_
  unfold ac78
  iterate 30 (all_goals (try (first
    | (with_reducible refine ite_in (fun _ => ?_) (fun _ => ?_))
    | (with_reducible refine ⟨fun _ => ?_, fun _ => ?_⟩)
    | (with_reducible refine And.intro ?_ ?_)
    | (with_reducible intro _)
    | (with_reducible exact is_in _)
    | (simp -implicitDefEqProofs only [SD, SF, SL, e_nf, reduceCtorEq, implies_true, ↓reduceIte, Nat.reduceEqDiff, Nat.reduceAdd, Nat.reduceMul, Nat.reduceSub, Nat.reduceLeDiff, Nat.reduceLT, Int.reduceLT, Int.reduceLE, Int.reduceEq, Int.reduceToNat, Int.reduceAdd, Int.reduceSub, Int.reduceNeg, Int.reduceBEq, Int.reduceBNe, Nat.reduceBEq, Int.cast_ofNat_Int, decide_true, decide_false, ne_eq, eq_self_iff_true, beq_eq_false_iff_ne, bne_iff_ne, List.replicate, *]))))
  all_goals (first | (simp_all [joinR]; done) | grind [joinR])
def ac101 : AC := (.seq (.ops [⟨(some 4), none, (.mv (.c (.int .i64 0)))⟩]) (.seq (.seq (.ops [⟨(some 5), none, (.mv (.t 0))⟩, ⟨(some 6), none, (.bin .neq (.t 5) (.c (.int .i64 2)))⟩]) (.cond (.t 6) (.seq (.ops [⟨(some 4), none, (.mv (.c (.int .i64 21)))⟩]) .ret) .skip)) (.seq (.seq (.ops [⟨(some 7), none, (.mv (.t 1))⟩]) (.block 0 (.seq (.block 2 (.block 1 (.seq (.seq (.seq (.ops [⟨(some 9), none, (.bin .eql (.t 7) (.c (.int .i64 0)))⟩, ⟨(some 8), none, (.mv (.t 9))⟩]) (.cond (.t 8) (.exit 1) .skip)) (.seq (.ops [⟨(some 11), none, (.bin .eql (.t 7) (.c (.int .i64 2)))⟩, ⟨(some 10), none, (.mv (.t 11))⟩]) (.cond (.t 10) (.exit 2) .skip))) (.exit 0)))) (.seq (.seq (.ops [⟨(some 4), none, (.mv (.c (.int .i64 0)))⟩]) .ret) (.exit 0))))) (.seq (.ops [⟨(some 4), none, (.mv (.c (.int .i64 21)))⟩]) .ret))))
theorem tr101 : Tryz.f101.body.bind (trCode Tryz.prog) = some (strip ac101) := by kernel_rfl
theorem spec101 (rule now : Int) : Spec Tryz.prog 101 [.fz (.int .i64 rule), .fz (.int .i64 now)] (.fz (.int .i64 (knockR rule now))) := by
  refine spec_at (n := 10) (ars := [(.t 4)]) (ac := ac101) Tryz.func101 (by kernel_rfl) (by kernel_rfl) tr101 (by kernel_rfl) ?_
  unfold ac101
  iterate 30 (all_goals (try (first
    | (with_reducible refine ite_in (fun _ => ?_) (fun _ => ?_))
    | (with_reducible refine ⟨fun _ => ?_, fun _ => ?_⟩)
    | (with_reducible refine And.intro ?_ ?_)
    | (with_reducible intro _)
    | (with_reducible exact is_in _)
    | (simp -implicitDefEqProofs only [SD, SF, SL, e_nf, reduceCtorEq, implies_true, ↓reduceIte, Nat.reduceEqDiff, Nat.reduceAdd, Nat.reduceMul, Nat.reduceSub, Nat.reduceLeDiff, Nat.reduceLT, Int.reduceLT, Int.reduceLE, Int.reduceEq, Int.reduceToNat, Int.reduceAdd, Int.reduceSub, Int.reduceNeg, Int.reduceBEq, Int.reduceBNe, Nat.reduceBEq, Int.cast_ofNat_Int, decide_true, decide_false, ne_eq, eq_self_iff_true, beq_eq_false_iff_ne, bne_iff_ne, List.replicate, *]))))
  all_goals (first | (simp_all [knockR]; done) | grind [knockR])
def ac79 : AC := (.seq (.ops [⟨(some 4), none, (.mv (.c (.int .i64 0)))⟩]) (.seq (.seq (.ops [⟨(some 5), none, (.mv (.t 0))⟩, ⟨(some 6), none, (.bin .eql (.t 5) (.c (.int .i64 2)))⟩, ⟨(some 7), none, (.mv (.t 6))⟩, ⟨(some 8), (some (7, true)), (.mv (.t 1))⟩, ⟨(some 9), (some (7, true)), (.bin .eql (.t 8) (.c (.int .i64 0)))⟩, ⟨(some 10), (some (7, true)), (.mv (.t 9))⟩, ⟨(some 11), (some (10, false)), (.mv (.t 1))⟩, ⟨(some 12), (some (10, false)), (.bin .eql (.t 11) (.c (.int .i64 2)))⟩, ⟨(some 13), (some (7, true)), (.pick (.t 10) (.c (.bool true)) (.t 12))⟩, ⟨(some 14), none, (.pick (.t 7) (.t 13) (.c (.bool false)))⟩]) (.cond (.t 14) (.seq (.ops [⟨(some 4), none, (.mv (.c (.int .i64 0)))⟩]) .ret) .skip)) (.seq (.ops [⟨(some 4), none, (.mv (.c (.int .i64 21)))⟩]) .ret)))
theorem tr79 : Tryz.f79.body.bind (trCode Tryz.prog) = some (strip ac79) := by kernel_rfl
theorem spec79 (rule now : Int) : Spec Tryz.prog 79 [.fz (.int .i64 rule), .fz (.int .i64 now)] (.fz (.int .i64 (knockR rule now))) := by
  refine spec_at (n := 13) (ars := [(.t 4)]) (ac := ac79) Tryz.func79 (by kernel_rfl) (by kernel_rfl) tr79 (by kernel_rfl) ?_
  unfold ac79
  iterate 30 (all_goals (try (first
    | (with_reducible refine ite_in (fun _ => ?_) (fun _ => ?_))
    | (with_reducible refine ⟨fun _ => ?_, fun _ => ?_⟩)
    | (with_reducible refine And.intro ?_ ?_)
    | (with_reducible intro _)
    | (with_reducible exact is_in _)
    | (simp -implicitDefEqProofs only [SD, SF, SL, e_nf, reduceCtorEq, implies_true, ↓reduceIte, Nat.reduceEqDiff, Nat.reduceAdd, Nat.reduceMul, Nat.reduceSub, Nat.reduceLeDiff, Nat.reduceLT, Int.reduceLT, Int.reduceLE, Int.reduceEq, Int.reduceToNat, Int.reduceAdd, Int.reduceSub, Int.reduceNeg, Int.reduceBEq, Int.reduceBNe, Nat.reduceBEq, Int.cast_ofNat_Int, decide_true, decide_false, ne_eq, eq_self_iff_true, beq_eq_false_iff_ne, bne_iff_ne, List.replicate, *]))))
  all_goals (first | (simp_all [knockR]; done) | grind [knockR])
def ac99 : AC := (.seq (.ops [⟨(some 2), none, (.mv (.c (.int .i64 0)))⟩, ⟨(some 3), none, (.mv (.c .e0))⟩]) (.seq (.seq (.ops [⟨(some 6), none, (.mv (.t 0))⟩, ⟨(some 7), none, (.len (.t 6))⟩, ⟨(some 8), none, (.mv (.c (.int .i64 0)))⟩]) (.block 0 (.loop (.seq (.ops [⟨(some 9), none, (.bin .lss (.t 8) (.t 7))⟩]) (.seq (.cond (.t 9) .skip (.exit 0)) (.seq (.block 1 (.seq (.ops [⟨(some 10), none, (.ix 29 (.t 6) (.t 8))⟩, ⟨(some 11), none, (.ld true 29 (.t 10))⟩, ⟨(some 5), none, (.alloc [(.int .i64 0), (.str []), (.str []), (.int .i64 0), (.bool false), (.str []), (.int .i64 0), (.int .i64 0), .e0, .e0, (.str []), (.int .i64 0), (.int .i64 0), (.bool false), (.str []), .e0, .e0, .e0, .e0, (.int .i64 0), (.int .i64 0), (.int .i64 0), (.int .i64 0), (.int .i64 0), (.int .i64 0), (.int .i64 0), (.int .i64 0), (.str []), (.int .i64 0)])⟩, ⟨none, none, (.sto 29 (.t 5) (.t 11))⟩]) (.seq (.ops [⟨(some 12), none, (.fld 3 (.t 5))⟩, ⟨(some 13), none, (.ld false 1 (.t 12))⟩, ⟨(some 14), none, (.bin .eql (.t 13) (.c (.int .i64 4)))⟩]) (.cond (.t 14) (.seq (.fz 5 (.draw (.q true ⟨(some 15), none, (.fld 10 (.t 5))⟩ (.q true ⟨(some 16), none, (.fld 1 (.t 15))⟩ (.q true ⟨(some 17), none, (.ld false 1 (.t 16))⟩ (.q false ⟨(some 19), none, (.fld 10 (.t 5))⟩ (.q false ⟨(some 20), none, (.fld 5 (.t 19))⟩ (.q false ⟨(some 21), none, (.ld false 1 (.t 20))⟩ (.op ⟨(some 18), none, (.buildSl 9 1 0 [(.str [])] [])⟩ (.op ⟨(some 22), none, (.app 9 1 16 (.t 18) (.t 21))⟩ (.q false ⟨(some 2), none, (.mv (.t 17))⟩ (.q false ⟨(some 3), none, (.mv (.t 22))⟩ .nil)))))))))))) .ret) .skip)))) (.ops [⟨(some 23), none, (.bin .add (.t 8) (.c (.int .i64 1)))⟩, ⟨(some 8), none, (.mv (.t 23))⟩]))))))) (.seq (.ops [⟨(some 2), none, (.mv (.c (.int .i64 0)))⟩, ⟨(some 3), none, (.mv (.c .e0))⟩]) .ret)))
theorem tr99 : Tryz.f99.body.bind (trCode Tryz.prog) = some (strip ac99) := by kernel_rfl
theorem spec99 (es : List Ev) (hb : ∀ e ∈ es, e.allow.length ≤ 1000) : Spec Tryz.prog 99 [.fz (.sl 29 (es.map encEv))] (.fz (.tup [.int .i64 (rulesL es).1, .sl 1 ((rulesL es).2.map encS)])) := by
  refine spec_at (n := 23) (ars := [(.t 2), (.t 3)]) (ac := ac99) Tryz.func99 (by kernel_rfl) (by kernel_rfl) tr99 (by kernel_rfl) ?_
  unfold ac99
  simp -implicitDefEqProofs only [SD, SF, SL, e_nf, reduceCtorEq, implies_true, ↓reduceIte, Nat.reduceEqDiff, Nat.reduceAdd, Nat.reduceMul, Nat.reduceSub, Nat.reduceLeDiff, Nat.reduceLT, Int.reduceLT, Int.reduceLE, Int.reduceEq, Int.reduceToNat, Int.reduceAdd, Int.reduceSub, Int.reduceNeg, Int.reduceBEq, Int.reduceBNe, Nat.reduceBEq, Int.cast_ofNat_Int, decide_true, decide_false, ne_eq, eq_self_iff_true, beq_eq_false_iff_ne, bne_iff_ne, List.replicate]
  intro hl
  refine loop_q (X := List Ev × List Ev × Unit) (fun n x => es = x.1 ++ x.2.1 ∧ n = x.2.1.length ∧ (rulesL es = rulesL x.2.1)) (fun x => [(8, .int .i64 x.1.length)]) (fun _ => []) [2, 3, 5, 9, 10, 11, 12, 13, 14, 15, 16, 17, 18, 19, 20, 21, 22, 23] [5, 18, 22]  (es).length ([], es, ()) ⟨rfl, rfl, by first | rfl | assumption | (simp_all [rulesL]; done) | grind [rulesL]⟩ ?_ ?_
  · simp -implicitDefEqProofs only [SD, SF, SL, e_nf, reduceCtorEq, implies_true, ↓reduceIte, Nat.reduceEqDiff, Nat.reduceAdd, Nat.reduceMul, Nat.reduceSub, Nat.reduceLeDiff, Nat.reduceLT, Int.reduceLT, Int.reduceLE, Int.reduceEq, Int.reduceToNat, Int.reduceAdd, Int.reduceSub, Int.reduceNeg, Int.reduceBEq, Int.reduceBNe, Nat.reduceBEq, Int.cast_ofNat_Int, decide_true, decide_false, ne_eq, eq_self_iff_true, beq_eq_false_iff_ne, bne_iff_ne, List.replicate, rulesL] <;> simp
  · rintro n ⟨pre, rest, a⟩ ⟨he, rfl, hI⟩
    dsimp only at he hI
    cases rest with
    | nil =>
      obtain rfl : es = pre := by simpa using he
      clear he
      have hlt : ¬ (((es).length : Int) < ((es).length : Int)) := Int.lt_irrefl _
      iterate 30 (all_goals (try (first
        | (with_reducible refine ite_in (fun _ => ?_) (fun _ => ?_))
        | (with_reducible refine ⟨fun _ => ?_, fun _ => ?_⟩)
        | (with_reducible refine And.intro ?_ ?_)
        | (with_reducible intro _)
        | (with_reducible exact is_in _)
        | (simp -implicitDefEqProofs only [SD, SF, SL, e_nf, reduceCtorEq, implies_true, ↓reduceIte, Nat.reduceEqDiff, Nat.reduceAdd, Nat.reduceMul, Nat.reduceSub, Nat.reduceLeDiff, Nat.reduceLT, Int.reduceLT, Int.reduceLE, Int.reduceEq, Int.reduceToNat, Int.reduceAdd, Int.reduceSub, Int.reduceNeg, Int.reduceBEq, Int.reduceBNe, Nat.reduceBEq, Int.cast_ofNat_Int, decide_true, decide_false, ne_eq, eq_self_iff_true, beq_eq_false_iff_ne, bne_iff_ne, List.replicate, rulesL, *]))))
      all_goals (simp_all [rulesL])

    | cons x rest =>
      have hlt := cut_lt he
      have hx := cutD encEv he
      simp only [encEv] at hx
      have hw := wrap_len (n := pre.length) (m := (es).length) (cut_lt' he) (by simpa using hl)
      replace he := Hd.mk he
      have hbx := hb x (by rw [he.out]; simp)
      have hm : maxLen = 9223372036854775807 := rfl
      have hb1 : x.allow.length ≤ maxLen := by rw [hm]; omega
      have hb2 : x.allow.length * 16 ≤ 140737488355328 := by omega
      iterate 30 (all_goals (try (first
        | ((with_reducible refine back_in rest.length [2, 3, 5, 9, 10, 11, 12, 13, 14, 15, 16, 17, 18, 19, 20, 21, 22, 23] [5, 18, 22] (pre ++ [x], rest, a) ?_ ⟨?_, ?_, ?_⟩ ?_)
           · simp
           · exact cut_snoc he.out
           · rfl
           · first | rfl | assumption | (simp_all [rulesL]; done) | grind [rulesL]
           · first | (simp -implicitDefEqProofs only [SD, SF, SL, e_nf, reduceCtorEq, implies_true, ↓reduceIte, Nat.reduceEqDiff, Nat.reduceAdd, Nat.reduceMul, Nat.reduceSub, Nat.reduceLeDiff, Nat.reduceLT, Int.reduceLT, Int.reduceLE, Int.reduceEq, Int.reduceToNat, Int.reduceAdd, Int.reduceSub, Int.reduceNeg, Int.reduceBEq, Int.reduceBNe, Nat.reduceBEq, Int.cast_ofNat_Int, decide_true, decide_false, ne_eq, eq_self_iff_true, beq_eq_false_iff_ne, bne_iff_ne, List.replicate, rulesL] <;> simp <;> done) | (simp -implicitDefEqProofs only [SD, SF, SL, e_nf, reduceCtorEq, implies_true, ↓reduceIte, Nat.reduceEqDiff, Nat.reduceAdd, Nat.reduceMul, Nat.reduceSub, Nat.reduceLeDiff, Nat.reduceLT, Int.reduceLT, Int.reduceLE, Int.reduceEq, Int.reduceToNat, Int.reduceAdd, Int.reduceSub, Int.reduceNeg, Int.reduceBEq, Int.reduceBNe, Nat.reduceBEq, Int.cast_ofNat_Int, decide_true, decide_false, ne_eq, eq_self_iff_true, beq_eq_false_iff_ne, bne_iff_ne, List.replicate, rulesL, *] <;> simp_all <;> done))
        | (with_reducible refine ite_in (fun _ => ?_) (fun _ => ?_))
        | (with_reducible refine ⟨fun _ => ?_, fun _ => ?_⟩)
        | (with_reducible refine And.intro ?_ ?_)
        | (with_reducible intro _)
        | (with_reducible exact is_in _)
        | (simp -implicitDefEqProofs only [SD, SF, SL, e_nf, reduceCtorEq, implies_true, ↓reduceIte, Nat.reduceEqDiff, Nat.reduceAdd, Nat.reduceMul, Nat.reduceSub, Nat.reduceLeDiff, Nat.reduceLT, Int.reduceLT, Int.reduceLE, Int.reduceEq, Int.reduceToNat, Int.reduceAdd, Int.reduceSub, Int.reduceNeg, Int.reduceBEq, Int.reduceBNe, Nat.reduceBEq, Int.cast_ofNat_Int, decide_true, decide_false, ne_eq, eq_self_iff_true, beq_eq_false_iff_ne, bne_iff_ne, List.replicate, rulesL, *]))))
      all_goals (simp_all [rulesL])
def ac77 : AC := (.seq (.ops [⟨(some 2), none, (.mv (.c (.int .i64 0)))⟩, ⟨(some 3), none, (.mv (.c .e0))⟩]) (.seq (.seq (.ops [⟨(some 4), none, (.mv (.c (.int .i64 0)))⟩]) (.block 0 (.loop (.seq (.seq (.ops [⟨(some 5), none, (.mv (.t 4))⟩, ⟨(some 6), none, (.mv (.t 0))⟩, ⟨(some 7), none, (.len (.t 6))⟩, ⟨(some 8), none, (.bin .lss (.t 5) (.t 7))⟩]) (.cond (.t 8) .skip (.exit 0))) (.seq (.block 1 (.seq (.ops [⟨(some 11), none, (.mv (.t 0))⟩, ⟨(some 12), none, (.mv (.t 4))⟩, ⟨(some 13), none, (.ix 29 (.t 11) (.t 12))⟩, ⟨(some 14), none, (.fld 3 (.t 13))⟩, ⟨(some 15), none, (.ld false 1 (.t 14))⟩, ⟨(some 16), none, (.bin .eql (.t 15) (.c (.int .i64 4)))⟩]) (.cond (.t 16) (.seq (.draw (.q true ⟨(some 17), none, (.mv (.t 0))⟩ (.q true ⟨(some 18), none, (.mv (.t 4))⟩ (.q true ⟨(some 19), none, (.ix 29 (.t 17) (.t 18))⟩ (.q true ⟨(some 20), none, (.fld 10 (.t 19))⟩ (.q true ⟨(some 21), none, (.fld 1 (.t 20))⟩ (.q true ⟨(some 22), none, (.ld false 1 (.t 21))⟩ (.q false ⟨(some 24), none, (.mv (.t 0))⟩ (.q false ⟨(some 25), none, (.mv (.t 4))⟩ (.q false ⟨(some 26), none, (.ix 29 (.t 24) (.t 25))⟩ (.q false ⟨(some 27), none, (.fld 10 (.t 26))⟩ (.q false ⟨(some 28), none, (.fld 5 (.t 27))⟩ (.q false ⟨(some 29), none, (.ld false 1 (.t 28))⟩ (.op ⟨(some 23), none, (.buildSl 9 1 0 [(.str [])] [])⟩ (.op ⟨(some 30), none, (.app 9 1 16 (.t 23) (.t 29))⟩ (.q false ⟨(some 2), none, (.mv (.t 22))⟩ (.q false ⟨(some 3), none, (.mv (.t 30))⟩ .nil))))))))))))))))) .ret) .skip))) (.ops [⟨(some 9), none, (.mv (.t 4))⟩, ⟨(some 10), none, (.bin .add (.t 9) (.c (.int .i64 1)))⟩, ⟨(some 4), none, (.mv (.t 10))⟩])))))) (.seq (.ops [⟨(some 2), none, (.mv (.c (.int .i64 0)))⟩, ⟨(some 3), none, (.mv (.c .e0))⟩]) .ret)))
theorem tr77 : Tryz.f77.body.bind (trCode Tryz.prog) = some (strip ac77) := by kernel_rfl
theorem spec77 (es : List Ev) (hb : ∀ e ∈ es, e.allow.length ≤ 1000) : Spec Tryz.prog 77 [.fz (.sl 29 (es.map encEv))] (.fz (.tup [.int .i64 (rulesL es).1, .sl 1 ((rulesL es).2.map encS)])) := by
  refine spec_at (n := 30) (ars := [(.t 2), (.t 3)]) (ac := ac77) Tryz.func77 (by kernel_rfl) (by kernel_rfl) tr77 (by kernel_rfl) ?_
  unfold ac77
  simp -implicitDefEqProofs only [SD, SF, SL, e_nf, reduceCtorEq, implies_true, ↓reduceIte, Nat.reduceEqDiff, Nat.reduceAdd, Nat.reduceMul, Nat.reduceSub, Nat.reduceLeDiff, Nat.reduceLT, Int.reduceLT, Int.reduceLE, Int.reduceEq, Int.reduceToNat, Int.reduceAdd, Int.reduceSub, Int.reduceNeg, Int.reduceBEq, Int.reduceBNe, Nat.reduceBEq, Int.cast_ofNat_Int, decide_true, decide_false, ne_eq, eq_self_iff_true, beq_eq_false_iff_ne, bne_iff_ne, List.replicate]
  refine loop_q (X := List Ev × List Ev × Unit) (fun n x => es = x.1 ++ x.2.1 ∧ n = x.2.1.length ∧ (rulesL es = rulesL x.2.1)) (fun x => [(4, .int .i64 x.1.length)]) (fun _ => []) [2, 3, 5, 6, 7, 8, 9, 10, 11, 12, 13, 14, 15, 16, 17, 18, 19, 20, 21, 22, 23, 24, 25, 26, 27, 28, 29, 30] [23, 30]  (es).length ([], es, ()) ⟨rfl, rfl, by first | rfl | assumption | (simp_all [rulesL]; done) | grind [rulesL]⟩ ?_ ?_
  · simp -implicitDefEqProofs only [SD, SF, SL, e_nf, reduceCtorEq, implies_true, ↓reduceIte, Nat.reduceEqDiff, Nat.reduceAdd, Nat.reduceMul, Nat.reduceSub, Nat.reduceLeDiff, Nat.reduceLT, Int.reduceLT, Int.reduceLE, Int.reduceEq, Int.reduceToNat, Int.reduceAdd, Int.reduceSub, Int.reduceNeg, Int.reduceBEq, Int.reduceBNe, Nat.reduceBEq, Int.cast_ofNat_Int, decide_true, decide_false, ne_eq, eq_self_iff_true, beq_eq_false_iff_ne, bne_iff_ne, List.replicate, rulesL] <;> simp
  · rintro n ⟨pre, rest, a⟩ ⟨he, rfl, hI⟩
    dsimp only at he hI
    cases rest with
    | nil =>
      obtain rfl : es = pre := by simpa using he
      clear he
      have hlt : ¬ (((es).length : Int) < ((es).length : Int)) := Int.lt_irrefl _
      iterate 30 (all_goals (try (first
        | (with_reducible refine ite_in (fun _ => ?_) (fun _ => ?_))
        | (with_reducible refine ⟨fun _ => ?_, fun _ => ?_⟩)
        | (with_reducible refine And.intro ?_ ?_)
        | (with_reducible intro _)
        | (with_reducible exact is_in _)
        | (simp -implicitDefEqProofs only [SD, SF, SL, e_nf, reduceCtorEq, implies_true, ↓reduceIte, Nat.reduceEqDiff, Nat.reduceAdd, Nat.reduceMul, Nat.reduceSub, Nat.reduceLeDiff, Nat.reduceLT, Int.reduceLT, Int.reduceLE, Int.reduceEq, Int.reduceToNat, Int.reduceAdd, Int.reduceSub, Int.reduceNeg, Int.reduceBEq, Int.reduceBNe, Nat.reduceBEq, Int.cast_ofNat_Int, decide_true, decide_false, ne_eq, eq_self_iff_true, beq_eq_false_iff_ne, bne_iff_ne, List.replicate, rulesL, *]))))
      all_goals (simp_all [rulesL])

    | cons x rest =>
      have hlt := cut_lt he
      have hx := cutD encEv he
      simp only [encEv] at hx
      simp -implicitDefEqProofs only [SD, SF, SL, e_nf, reduceCtorEq, implies_true, ↓reduceIte, Nat.reduceEqDiff, Nat.reduceAdd, Nat.reduceMul, Nat.reduceSub, Nat.reduceLeDiff, Nat.reduceLT, Int.reduceLT, Int.reduceLE, Int.reduceEq, Int.reduceToNat, Int.reduceAdd, Int.reduceSub, Int.reduceNeg, Int.reduceBEq, Int.reduceBNe, Nat.reduceBEq, Int.cast_ofNat_Int, decide_true, decide_false, ne_eq, eq_self_iff_true, beq_eq_false_iff_ne, bne_iff_ne, List.replicate, rulesL, hlt]
      intro hl
      have hw := wrap_len (n := pre.length) (m := (es).length) (cut_lt' he) (by simpa using hl)
      replace he := Hd.mk he
      have hbx := hb x (by rw [he.out]; simp)
      have hm : maxLen = 9223372036854775807 := rfl
      have hb1 : x.allow.length ≤ maxLen := by rw [hm]; omega
      have hb2 : x.allow.length * 16 ≤ 140737488355328 := by omega
      iterate 30 (all_goals (try (first
        | ((with_reducible refine back_in rest.length [2, 3, 5, 6, 7, 8, 9, 10, 11, 12, 13, 14, 15, 16, 17, 18, 19, 20, 21, 22, 23, 24, 25, 26, 27, 28, 29, 30] [23, 30] (pre ++ [x], rest, a) ?_ ⟨?_, ?_, ?_⟩ ?_)
           · simp
           · exact cut_snoc he.out
           · rfl
           · first | rfl | assumption | (simp_all [rulesL]; done) | grind [rulesL]
           · first | (simp -implicitDefEqProofs only [SD, SF, SL, e_nf, reduceCtorEq, implies_true, ↓reduceIte, Nat.reduceEqDiff, Nat.reduceAdd, Nat.reduceMul, Nat.reduceSub, Nat.reduceLeDiff, Nat.reduceLT, Int.reduceLT, Int.reduceLE, Int.reduceEq, Int.reduceToNat, Int.reduceAdd, Int.reduceSub, Int.reduceNeg, Int.reduceBEq, Int.reduceBNe, Nat.reduceBEq, Int.cast_ofNat_Int, decide_true, decide_false, ne_eq, eq_self_iff_true, beq_eq_false_iff_ne, bne_iff_ne, List.replicate, rulesL] <;> simp <;> done) | (simp -implicitDefEqProofs only [SD, SF, SL, e_nf, reduceCtorEq, implies_true, ↓reduceIte, Nat.reduceEqDiff, Nat.reduceAdd, Nat.reduceMul, Nat.reduceSub, Nat.reduceLeDiff, Nat.reduceLT, Int.reduceLT, Int.reduceLE, Int.reduceEq, Int.reduceToNat, Int.reduceAdd, Int.reduceSub, Int.reduceNeg, Int.reduceBEq, Int.reduceBNe, Nat.reduceBEq, Int.cast_ofNat_Int, decide_true, decide_false, ne_eq, eq_self_iff_true, beq_eq_false_iff_ne, bne_iff_ne, List.replicate, rulesL, *] <;> simp_all <;> done))
        | (with_reducible refine ite_in (fun _ => ?_) (fun _ => ?_))
        | (with_reducible refine ⟨fun _ => ?_, fun _ => ?_⟩)
        | (with_reducible refine And.intro ?_ ?_)
        | (with_reducible intro _)
        | (with_reducible exact is_in _)
        | (simp -implicitDefEqProofs only [SD, SF, SL, e_nf, reduceCtorEq, implies_true, ↓reduceIte, Nat.reduceEqDiff, Nat.reduceAdd, Nat.reduceMul, Nat.reduceSub, Nat.reduceLeDiff, Nat.reduceLT, Int.reduceLT, Int.reduceLE, Int.reduceEq, Int.reduceToNat, Int.reduceAdd, Int.reduceSub, Int.reduceNeg, Int.reduceBEq, Int.reduceBNe, Nat.reduceBEq, Int.cast_ofNat_Int, decide_true, decide_false, ne_eq, eq_self_iff_true, beq_eq_false_iff_ne, bne_iff_ne, List.replicate, rulesL, *]))))
      all_goals (simp_all [rulesL])
def ac72 : AC := (.seq (.ops [⟨(some 4), none, (.mv (.c (.int .i64 0)))⟩]) (.seq (.seq (.ops [⟨(some 6), none, (.mv (.t 0))⟩, ⟨(some 7), none, (.len (.t 6))⟩, ⟨(some 8), none, (.mv (.c (.int .i64 0)))⟩]) (.block 0 (.loop (.seq (.ops [⟨(some 9), none, (.bin .lss (.t 8) (.t 7))⟩]) (.seq (.cond (.t 9) .skip (.exit 0)) (.seq (.block 1 (.seq (.ops [⟨(some 10), none, (.mv (.t 8))⟩, ⟨(some 5), none, (.mv (.t 10))⟩]) (.seq (.ops [⟨(some 11), none, (.mv (.t 0))⟩, ⟨(some 12), none, (.mv (.t 5))⟩, ⟨(some 13), none, (.ix 29 (.t 11) (.t 12))⟩, ⟨(some 14), none, (.fld 3 (.t 13))⟩, ⟨(some 15), none, (.ld false 1 (.t 14))⟩, ⟨(some 16), none, (.bin .eql (.t 15) (.c (.int .i64 2)))⟩, ⟨(some 17), none, (.mv (.t 16))⟩, ⟨(some 18), (some (17, true)), (.mv (.t 0))⟩, ⟨(some 19), (some (17, true)), (.mv (.t 5))⟩, ⟨(some 20), (some (17, true)), (.ix 29 (.t 18) (.t 19))⟩, ⟨(some 21), (some (17, true)), (.fld 5 (.t 20))⟩, ⟨(some 22), (some (17, true)), (.ld false 1 (.t 21))⟩, ⟨(some 23), (some (17, true)), (.mv (.t 1))⟩, ⟨(some 24), (some (17, true)), (.bin .eql (.t 22) (.t 23))⟩, ⟨(some 25), none, (.pick (.t 17) (.t 24) (.c (.bool false)))⟩]) (.cond (.t 25) (.seq (.ops [⟨(some 26), none, (.mv (.t 0))⟩, ⟨(some 27), none, (.mv (.t 5))⟩, ⟨(some 28), none, (.ix 29 (.t 26) (.t 27))⟩, ⟨(some 29), none, (.fld 10 (.t 28))⟩, ⟨(some 30), none, (.fld 1 (.t 29))⟩, ⟨(some 31), none, (.ld false 1 (.t 30))⟩, ⟨(some 4), none, (.mv (.t 31))⟩]) .ret) .skip)))) (.ops [⟨(some 32), none, (.bin .add (.t 8) (.c (.int .i64 1)))⟩, ⟨(some 8), none, (.mv (.t 32))⟩]))))))) (.seq (.ops [⟨(some 4), none, (.mv (.c (.int .i64 0)))⟩]) .ret)))
theorem tr72 : Tryz.f72.body.bind (trCode Tryz.prog) = some (strip ac72) := by kernel_rfl
theorem spec72 (es : List Ev) (u : List UInt8) : Spec Tryz.prog 72 [.fz (.sl 29 (es.map encEv)), .fz (.str u)] (.fz (.int .i64 (memberL es u))) := by
  refine spec_at (n := 31) (ars := [(.t 4)]) (ac := ac72) Tryz.func72 (by kernel_rfl) (by kernel_rfl) tr72 (by kernel_rfl) ?_
  unfold ac72
  simp -implicitDefEqProofs only [SD, SF, SL, e_nf, reduceCtorEq, implies_true, ↓reduceIte, Nat.reduceEqDiff, Nat.reduceAdd, Nat.reduceMul, Nat.reduceSub, Nat.reduceLeDiff, Nat.reduceLT, Int.reduceLT, Int.reduceLE, Int.reduceEq, Int.reduceToNat, Int.reduceAdd, Int.reduceSub, Int.reduceNeg, Int.reduceBEq, Int.reduceBNe, Nat.reduceBEq, Int.cast_ofNat_Int, decide_true, decide_false, ne_eq, eq_self_iff_true, beq_eq_false_iff_ne, bne_iff_ne, List.replicate]
  intro hl
  refine loop_q (X := List Ev × List Ev × Unit) (fun n x => es = x.1 ++ x.2.1 ∧ n = x.2.1.length ∧ (memberL es u = memberL x.2.1 u)) (fun x => [(8, .int .i64 x.1.length)]) (fun _ => []) [4, 5, 9, 10, 11, 12, 13, 14, 15, 16, 17, 18, 19, 20, 21, 22, 23, 24, 25, 26, 27, 28, 29, 30, 31, 32] []  (es).length ([], es, ()) ⟨rfl, rfl, by first | rfl | assumption | (simp_all [memberL]; done) | grind [memberL]⟩ ?_ ?_
  · simp -implicitDefEqProofs only [SD, SF, SL, e_nf, reduceCtorEq, implies_true, ↓reduceIte, Nat.reduceEqDiff, Nat.reduceAdd, Nat.reduceMul, Nat.reduceSub, Nat.reduceLeDiff, Nat.reduceLT, Int.reduceLT, Int.reduceLE, Int.reduceEq, Int.reduceToNat, Int.reduceAdd, Int.reduceSub, Int.reduceNeg, Int.reduceBEq, Int.reduceBNe, Nat.reduceBEq, Int.cast_ofNat_Int, decide_true, decide_false, ne_eq, eq_self_iff_true, beq_eq_false_iff_ne, bne_iff_ne, List.replicate, memberL] <;> simp
  · rintro n ⟨pre, rest, a⟩ ⟨he, rfl, hI⟩
    dsimp only at he hI
    cases rest with
    | nil =>
      obtain rfl : es = pre := by simpa using he
      clear he
      have hlt : ¬ (((es).length : Int) < ((es).length : Int)) := Int.lt_irrefl _
      iterate 30 (all_goals (try (first
        | (with_reducible refine ite_in (fun _ => ?_) (fun _ => ?_))
        | (with_reducible refine ⟨fun _ => ?_, fun _ => ?_⟩)
        | (with_reducible refine And.intro ?_ ?_)
        | (with_reducible intro _)
        | (with_reducible exact is_in _)
        | (simp -implicitDefEqProofs only [SD, SF, SL, e_nf, reduceCtorEq, implies_true, ↓reduceIte, Nat.reduceEqDiff, Nat.reduceAdd, Nat.reduceMul, Nat.reduceSub, Nat.reduceLeDiff, Nat.reduceLT, Int.reduceLT, Int.reduceLE, Int.reduceEq, Int.reduceToNat, Int.reduceAdd, Int.reduceSub, Int.reduceNeg, Int.reduceBEq, Int.reduceBNe, Nat.reduceBEq, Int.cast_ofNat_Int, decide_true, decide_false, ne_eq, eq_self_iff_true, beq_eq_false_iff_ne, bne_iff_ne, List.replicate, memberL, *]))))
      all_goals (simp_all [memberL])

    | cons x rest =>
      have hlt := cut_lt he
      have hx := cutD encEv he
      simp only [encEv] at hx
      have hw := wrap_len (n := pre.length) (m := (es).length) (cut_lt' he) (by simpa using hl)
      replace he := Hd.mk he
      iterate 30 (all_goals (try (first
        | ((with_reducible refine back_in rest.length [4, 5, 9, 10, 11, 12, 13, 14, 15, 16, 17, 18, 19, 20, 21, 22, 23, 24, 25, 26, 27, 28, 29, 30, 31, 32] [] (pre ++ [x], rest, a) ?_ ⟨?_, ?_, ?_⟩ ?_)
           · simp
           · exact cut_snoc he.out
           · rfl
           · first | rfl | assumption | (simp_all [memberL]; done) | grind [memberL]
           · first | (simp -implicitDefEqProofs only [SD, SF, SL, e_nf, reduceCtorEq, implies_true, ↓reduceIte, Nat.reduceEqDiff, Nat.reduceAdd, Nat.reduceMul, Nat.reduceSub, Nat.reduceLeDiff, Nat.reduceLT, Int.reduceLT, Int.reduceLE, Int.reduceEq, Int.reduceToNat, Int.reduceAdd, Int.reduceSub, Int.reduceNeg, Int.reduceBEq, Int.reduceBNe, Nat.reduceBEq, Int.cast_ofNat_Int, decide_true, decide_false, ne_eq, eq_self_iff_true, beq_eq_false_iff_ne, bne_iff_ne, List.replicate, memberL] <;> simp <;> done) | (simp -implicitDefEqProofs only [SD, SF, SL, e_nf, reduceCtorEq, implies_true, ↓reduceIte, Nat.reduceEqDiff, Nat.reduceAdd, Nat.reduceMul, Nat.reduceSub, Nat.reduceLeDiff, Nat.reduceLT, Int.reduceLT, Int.reduceLE, Int.reduceEq, Int.reduceToNat, Int.reduceAdd, Int.reduceSub, Int.reduceNeg, Int.reduceBEq, Int.reduceBNe, Nat.reduceBEq, Int.cast_ofNat_Int, decide_true, decide_false, ne_eq, eq_self_iff_true, beq_eq_false_iff_ne, bne_iff_ne, List.replicate, memberL, *] <;> simp_all <;> done))
        | (with_reducible refine ite_in (fun _ => ?_) (fun _ => ?_))
        | (with_reducible refine ⟨fun _ => ?_, fun _ => ?_⟩)
        | (with_reducible refine And.intro ?_ ?_)
        | (with_reducible intro _)
        | (with_reducible exact is_in _)
        | (simp -implicitDefEqProofs only [SD, SF, SL, e_nf, reduceCtorEq, implies_true, ↓reduceIte, Nat.reduceEqDiff, Nat.reduceAdd, Nat.reduceMul, Nat.reduceSub, Nat.reduceLeDiff, Nat.reduceLT, Int.reduceLT, Int.reduceLE, Int.reduceEq, Int.reduceToNat, Int.reduceAdd, Int.reduceSub, Int.reduceNeg, Int.reduceBEq, Int.reduceBNe, Nat.reduceBEq, Int.cast_ofNat_Int, decide_true, decide_false, ne_eq, eq_self_iff_true, beq_eq_false_iff_ne, bne_iff_ne, List.replicate, memberL, *]))))
      all_goals (simp_all [memberL])
def ac36 : AC := (.seq (.ops [⟨(some 4), none, (.mv (.c (.int .i64 0)))⟩]) (.seq (.seq (.ops [⟨(some 5), none, (.mv (.c (.int .i64 0)))⟩]) (.block 0 (.loop (.seq (.seq (.ops [⟨(some 6), none, (.mv (.t 5))⟩, ⟨(some 7), none, (.mv (.t 0))⟩, ⟨(some 8), none, (.len (.t 7))⟩, ⟨(some 9), none, (.bin .lss (.t 6) (.t 8))⟩]) (.cond (.t 9) .skip (.exit 0))) (.seq (.block 1 (.seq (.ops [⟨(some 12), none, (.mv (.t 0))⟩, ⟨(some 13), none, (.mv (.t 5))⟩, ⟨(some 14), none, (.ix 29 (.t 12) (.t 13))⟩, ⟨(some 15), none, (.fld 3 (.t 14))⟩, ⟨(some 16), none, (.ld false 1 (.t 15))⟩, ⟨(some 17), none, (.bin .eql (.t 16) (.c (.int .i64 2)))⟩, ⟨(some 18), none, (.mv (.t 17))⟩, ⟨(some 19), (some (18, true)), (.mv (.t 0))⟩, ⟨(some 20), (some (18, true)), (.mv (.t 5))⟩, ⟨(some 21), (some (18, true)), (.ix 29 (.t 19) (.t 20))⟩, ⟨(some 22), (some (18, true)), (.fld 5 (.t 21))⟩, ⟨(some 23), (some (18, true)), (.ld false 1 (.t 22))⟩, ⟨(some 24), (some (18, true)), (.mv (.t 1))⟩, ⟨(some 25), (some (18, true)), (.bin .eql (.t 23) (.t 24))⟩, ⟨(some 26), none, (.pick (.t 18) (.t 25) (.c (.bool false)))⟩]) (.cond (.t 26) (.seq (.ops [⟨(some 27), none, (.mv (.t 0))⟩, ⟨(some 28), none, (.mv (.t 5))⟩, ⟨(some 29), none, (.ix 29 (.t 27) (.t 28))⟩, ⟨(some 30), none, (.fld 10 (.t 29))⟩, ⟨(some 31), none, (.fld 1 (.t 30))⟩, ⟨(some 32), none, (.ld false 1 (.t 31))⟩, ⟨(some 4), none, (.mv (.t 32))⟩]) .ret) .skip))) (.ops [⟨(some 10), none, (.mv (.t 5))⟩, ⟨(some 11), none, (.bin .add (.t 10) (.c (.int .i64 1)))⟩, ⟨(some 5), none, (.mv (.t 11))⟩])))))) (.seq (.ops [⟨(some 4), none, (.mv (.c (.int .i64 0)))⟩]) .ret)))
theorem tr36 : Tryz.f36.body.bind (trCode Tryz.prog) = some (strip ac36) := by kernel_rfl
theorem spec36 (es : List Ev) (u : List UInt8) : Spec Tryz.prog 36 [.fz (.sl 29 (es.map encEv)), .fz (.str u)] (.fz (.int .i64 (memberL es u))) := by
  refine spec_at (n := 31) (ars := [(.t 4)]) (ac := ac36) Tryz.func36 (by kernel_rfl) (by kernel_rfl) tr36 (by kernel_rfl) ?_
  unfold ac36
  simp -implicitDefEqProofs only [SD, SF, SL, e_nf, reduceCtorEq, implies_true, ↓reduceIte, Nat.reduceEqDiff, Nat.reduceAdd, Nat.reduceMul, Nat.reduceSub, Nat.reduceLeDiff, Nat.reduceLT, Int.reduceLT, Int.reduceLE, Int.reduceEq, Int.reduceToNat, Int.reduceAdd, Int.reduceSub, Int.reduceNeg, Int.reduceBEq, Int.reduceBNe, Nat.reduceBEq, Int.cast_ofNat_Int, decide_true, decide_false, ne_eq, eq_self_iff_true, beq_eq_false_iff_ne, bne_iff_ne, List.replicate]
  refine loop_q (X := List Ev × List Ev × Unit) (fun n x => es = x.1 ++ x.2.1 ∧ n = x.2.1.length ∧ (memberL es u = memberL x.2.1 u)) (fun x => [(5, .int .i64 x.1.length)]) (fun _ => []) [4, 6, 7, 8, 9, 10, 11, 12, 13, 14, 15, 16, 17, 18, 19, 20, 21, 22, 23, 24, 25, 26, 27, 28, 29, 30, 31, 32] []  (es).length ([], es, ()) ⟨rfl, rfl, by first | rfl | assumption | (simp_all [memberL]; done) | grind [memberL]⟩ ?_ ?_
  · simp -implicitDefEqProofs only [SD, SF, SL, e_nf, reduceCtorEq, implies_true, ↓reduceIte, Nat.reduceEqDiff, Nat.reduceAdd, Nat.reduceMul, Nat.reduceSub, Nat.reduceLeDiff, Nat.reduceLT, Int.reduceLT, Int.reduceLE, Int.reduceEq, Int.reduceToNat, Int.reduceAdd, Int.reduceSub, Int.reduceNeg, Int.reduceBEq, Int.reduceBNe, Nat.reduceBEq, Int.cast_ofNat_Int, decide_true, decide_false, ne_eq, eq_self_iff_true, beq_eq_false_iff_ne, bne_iff_ne, List.replicate, memberL] <;> simp
  · rintro n ⟨pre, rest, a⟩ ⟨he, rfl, hI⟩
    dsimp only at he hI
    cases rest with
    | nil =>
      obtain rfl : es = pre := by simpa using he
      clear he
      have hlt : ¬ (((es).length : Int) < ((es).length : Int)) := Int.lt_irrefl _
      iterate 30 (all_goals (try (first
        | (with_reducible refine ite_in (fun _ => ?_) (fun _ => ?_))
        | (with_reducible refine ⟨fun _ => ?_, fun _ => ?_⟩)
        | (with_reducible refine And.intro ?_ ?_)
        | (with_reducible intro _)
        | (with_reducible exact is_in _)
        | (simp -implicitDefEqProofs only [SD, SF, SL, e_nf, reduceCtorEq, implies_true, ↓reduceIte, Nat.reduceEqDiff, Nat.reduceAdd, Nat.reduceMul, Nat.reduceSub, Nat.reduceLeDiff, Nat.reduceLT, Int.reduceLT, Int.reduceLE, Int.reduceEq, Int.reduceToNat, Int.reduceAdd, Int.reduceSub, Int.reduceNeg, Int.reduceBEq, Int.reduceBNe, Nat.reduceBEq, Int.cast_ofNat_Int, decide_true, decide_false, ne_eq, eq_self_iff_true, beq_eq_false_iff_ne, bne_iff_ne, List.replicate, memberL, *]))))
      all_goals (simp_all [memberL])

    | cons x rest =>
      have hlt := cut_lt he
      have hx := cutD encEv he
      simp only [encEv] at hx
      simp -implicitDefEqProofs only [SD, SF, SL, e_nf, reduceCtorEq, implies_true, ↓reduceIte, Nat.reduceEqDiff, Nat.reduceAdd, Nat.reduceMul, Nat.reduceSub, Nat.reduceLeDiff, Nat.reduceLT, Int.reduceLT, Int.reduceLE, Int.reduceEq, Int.reduceToNat, Int.reduceAdd, Int.reduceSub, Int.reduceNeg, Int.reduceBEq, Int.reduceBNe, Nat.reduceBEq, Int.cast_ofNat_Int, decide_true, decide_false, ne_eq, eq_self_iff_true, beq_eq_false_iff_ne, bne_iff_ne, List.replicate, memberL, hlt]
      intro hl
      have hw := wrap_len (n := pre.length) (m := (es).length) (cut_lt' he) (by simpa using hl)
      replace he := Hd.mk he
      iterate 30 (all_goals (try (first
        | ((with_reducible refine back_in rest.length [4, 6, 7, 8, 9, 10, 11, 12, 13, 14, 15, 16, 17, 18, 19, 20, 21, 22, 23, 24, 25, 26, 27, 28, 29, 30, 31, 32] [] (pre ++ [x], rest, a) ?_ ⟨?_, ?_, ?_⟩ ?_)
           · simp
           · exact cut_snoc he.out
           · rfl
           · first | rfl | assumption | (simp_all [memberL]; done) | grind [memberL]
           · first | (simp -implicitDefEqProofs only [SD, SF, SL, e_nf, reduceCtorEq, implies_true, ↓reduceIte, Nat.reduceEqDiff, Nat.reduceAdd, Nat.reduceMul, Nat.reduceSub, Nat.reduceLeDiff, Nat.reduceLT, Int.reduceLT, Int.reduceLE, Int.reduceEq, Int.reduceToNat, Int.reduceAdd, Int.reduceSub, Int.reduceNeg, Int.reduceBEq, Int.reduceBNe, Nat.reduceBEq, Int.cast_ofNat_Int, decide_true, decide_false, ne_eq, eq_self_iff_true, beq_eq_false_iff_ne, bne_iff_ne, List.replicate, memberL] <;> simp <;> done) | (simp -implicitDefEqProofs only [SD, SF, SL, e_nf, reduceCtorEq, implies_true, ↓reduceIte, Nat.reduceEqDiff, Nat.reduceAdd, Nat.reduceMul, Nat.reduceSub, Nat.reduceLeDiff, Nat.reduceLT, Int.reduceLT, Int.reduceLE, Int.reduceEq, Int.reduceToNat, Int.reduceAdd, Int.reduceSub, Int.reduceNeg, Int.reduceBEq, Int.reduceBNe, Nat.reduceBEq, Int.cast_ofNat_Int, decide_true, decide_false, ne_eq, eq_self_iff_true, beq_eq_false_iff_ne, bne_iff_ne, List.replicate, memberL, *] <;> simp_all <;> done))
        | (with_reducible refine ite_in (fun _ => ?_) (fun _ => ?_))
        | (with_reducible refine ⟨fun _ => ?_, fun _ => ?_⟩)
        | (with_reducible refine And.intro ?_ ?_)
        | (with_reducible intro _)
        | (with_reducible exact is_in _)
        | (simp -implicitDefEqProofs only [SD, SF, SL, e_nf, reduceCtorEq, implies_true, ↓reduceIte, Nat.reduceEqDiff, Nat.reduceAdd, Nat.reduceMul, Nat.reduceSub, Nat.reduceLeDiff, Nat.reduceLT, Int.reduceLT, Int.reduceLE, Int.reduceEq, Int.reduceToNat, Int.reduceAdd, Int.reduceSub, Int.reduceNeg, Int.reduceBEq, Int.reduceBNe, Nat.reduceBEq, Int.cast_ofNat_Int, decide_true, decide_false, ne_eq, eq_self_iff_true, beq_eq_false_iff_ne, bne_iff_ne, List.replicate, memberL, *]))))
      all_goals (simp_all [memberL])
def ac52 : AC := (.seq (.ops [⟨(some 6), none, (.mv (.c (.bool false)))⟩]) (.seq (.seq (.ops [⟨(some 7), none, (.mv (.t 0))⟩, ⟨(some 8), none, (.bin .lss (.t 7) (.c (.int .i64 0)))⟩, ⟨(some 9), none, (.mv (.t 8))⟩, ⟨(some 10), (some (9, false)), (.mv (.t 0))⟩, ⟨(some 11), (some (9, false)), (.bin .gtr (.t 10) (.c (.int .i64 4)))⟩, ⟨(some 12), none, (.pick (.t 9) (.c (.bool true)) (.t 11))⟩]) (.cond (.t 12) (.seq (.ops [⟨(some 6), none, (.mv (.c (.bool false)))⟩]) .ret) .skip)) (.seq (.seq (.ops [⟨(some 13), none, (.mv (.t 1))⟩]) (.block 0 (.seq (.ops [⟨(some 15), none, (.bin .eql (.t 13) (.c (.int .i64 3)))⟩, ⟨(some 14), none, (.mv (.t 15))⟩]) (.cond (.t 14) (.seq (.ops [⟨(some 16), none, (.mv (.t 2))⟩, ⟨(some 17), none, (.mv (.t 16))⟩, ⟨(some 18), (some (17, true)), (.mv (.t 0))⟩, ⟨(some 19), (some (17, true)), (.bin .neq (.t 18) (.c (.int .i64 4)))⟩, ⟨(some 20), none, (.pick (.t 17) (.t 19) (.c (.bool false)))⟩, ⟨(some 6), none, (.mv (.t 20))⟩]) .ret) (.seq (.ops [⟨(some 22), none, (.bin .eql (.t 13) (.c (.int .i64 0)))⟩, ⟨(some 21), none, (.mv (.t 22))⟩]) (.cond (.t 21) (.seq (.ops [⟨(some 23), none, (.mv (.t 0))⟩, ⟨(some 24), none, (.bin .eql (.t 23) (.c (.int .i64 1)))⟩, ⟨(some 25), none, (.mv (.t 24))⟩, ⟨(some 26), (some (25, false)), (.mv (.t 0))⟩, ⟨(some 27), (some (25, false)), (.bin .eql (.t 26) (.c (.int .i64 2)))⟩, ⟨(some 28), none, (.pick (.t 25) (.c (.bool true)) (.t 27))⟩, ⟨(some 29), none, (.mv (.t 28))⟩, ⟨(some 30), (some (29, false)), (.mv (.t 0))⟩, ⟨(some 31), (some (29, false)), (.bin .eql (.t 30) (.c (.int .i64 3)))⟩, ⟨(some 32), none, (.pick (.t 29) (.c (.bool true)) (.t 31))⟩, ⟨(some 33), none, (.mv (.t 32))⟩, ⟨(some 34), (some (33, false)), (.mv (.t 0))⟩, ⟨(some 35), (some (33, false)), (.bin .eql (.t 34) (.c (.int .i64 4)))⟩, ⟨(some 36), (some (33, false)), (.mv (.t 35))⟩, ⟨(some 37), (some (36, true)), (.mv (.t 2))⟩, ⟨(some 38), (some (36, true)), (.nt (.t 37))⟩, ⟨(some 39), (some (33, false)), (.pick (.t 36) (.t 38) (.c (.bool false)))⟩, ⟨(some 40), none, (.pick (.t 33) (.c (.bool true)) (.t 39))⟩, ⟨(some 6), none, (.mv (.t 40))⟩]) .ret) (.seq (.ops [⟨(some 42), none, (.bin .eql (.t 13) (.c (.int .i64 2)))⟩, ⟨(some 41), none, (.mv (.t 42))⟩]) (.cond (.t 41) (.seq (.ops [⟨(some 43), none, (.mv (.t 2))⟩, ⟨(some 44), none, (.mv (.t 43))⟩, ⟨(some 45), (some (44, true)), (.mv (.t 0))⟩, ⟨(some 46), (some (44, true)), (.bin .eql (.t 45) (.c (.int .i64 0)))⟩, ⟨(some 47), (some (44, true)), (.mv (.t 46))⟩, ⟨(some 48), (some (47, false)), (.mv (.t 0))⟩, ⟨(some 49), (some (47, false)), (.bin .eql (.t 48) (.c (.int .i64 2)))⟩, ⟨(some 50), (some (44, true)), (.pick (.t 47) (.c (.bool true)) (.t 49))⟩, ⟨(some 51), none, (.pick (.t 44) (.t 50) (.c (.bool false)))⟩, ⟨(some 6), none, (.mv (.t 51))⟩]) .ret) (.seq (.ops [⟨(some 53), none, (.bin .eql (.t 13) (.c (.int .i64 1)))⟩, ⟨(some 52), none, (.mv (.t 53))⟩]) (.cond (.t 52) (.seq (.ops [⟨(some 54), none, (.mv (.t 2))⟩, ⟨(some 55), none, (.nt (.t 54))⟩, ⟨(some 56), none, (.mv (.t 55))⟩, ⟨(some 57), (some (56, true)), (.mv (.t 0))⟩, ⟨(some 58), (some (56, true)), (.bin .eql (.t 57) (.c (.int .i64 0)))⟩, ⟨(some 59), (some (56, true)), (.mv (.t 58))⟩, ⟨(some 60), (some (59, false)), (.mv (.t 0))⟩, ⟨(some 61), (some (59, false)), (.bin .eql (.t 60) (.c (.int .i64 2)))⟩, ⟨(some 62), (some (56, true)), (.pick (.t 59) (.c (.bool true)) (.t 61))⟩, ⟨(some 63), (some (56, true)), (.mv (.t 62))⟩, ⟨(some 64), (some (63, false)), (.mv (.t 0))⟩, ⟨(some 65), (some (63, false)), (.bin .eql (.t 64) (.c (.int .i64 1)))⟩, ⟨(some 66), (some (56, true)), (.pick (.t 63) (.c (.bool true)) (.t 65))⟩, ⟨(some 67), none, (.pick (.t 56) (.t 66) (.c (.bool false)))⟩, ⟨(some 6), none, (.mv (.t 67))⟩]) .ret) (.seq (.ops [⟨(some 69), none, (.bin .eql (.t 13) (.c (.int .i64 4)))⟩, ⟨(some 68), none, (.mv (.t 69))⟩]) (.cond (.t 68) (.seq (.ops [⟨(some 70), none, (.mv (.t 2))⟩, ⟨(some 71), none, (.nt (.t 70))⟩, ⟨(some 6), none, (.mv (.t 71))⟩]) .ret) .skip)))))))))))) (.seq (.ops [⟨(some 6), none, (.mv (.c (.bool false)))⟩]) .ret))))
theorem tr52 : Tryz.f52.body.bind (trCode Tryz.prog) = some (strip ac52) := by kernel_rfl
theorem spec52 (p q : Int) (self : Bool) : Spec Tryz.prog 52 [.fz (.int .i64 p), .fz (.int .i64 q), .fz (.bool self)] (.fz (.bool (moveR p q self))) := by
  refine spec_at (n := 69) (ars := [(.t 6)]) (ac := ac52) Tryz.func52 (by kernel_rfl) (by kernel_rfl) tr52 (by kernel_rfl) ?_
  unfold ac52
  iterate 30 (all_goals (try (first
    | (with_reducible refine ite_in (fun _ => ?_) (fun _ => ?_))
    | (with_reducible refine ⟨fun _ => ?_, fun _ => ?_⟩)
    | (with_reducible refine And.intro ?_ ?_)
    | (with_reducible intro _)
    | (with_reducible exact is_in _)
    | (simp -implicitDefEqProofs only [SD, SF, SL, e_nf, reduceCtorEq, implies_true, ↓reduceIte, Nat.reduceEqDiff, Nat.reduceAdd, Nat.reduceMul, Nat.reduceSub, Nat.reduceLeDiff, Nat.reduceLT, Int.reduceLT, Int.reduceLE, Int.reduceEq, Int.reduceToNat, Int.reduceAdd, Int.reduceSub, Int.reduceNeg, Int.reduceBEq, Int.reduceBNe, Nat.reduceBEq, Int.cast_ofNat_Int, decide_true, decide_false, ne_eq, eq_self_iff_true, beq_eq_false_iff_ne, bne_iff_ne, List.replicate, *]))))
  all_goals (first | (simp_all [moveR]; done) | grind [moveR])

end Go.Proofs.YtcolebkklojccaaGreat.E

namespace Go.Proofs.YtcolebkklojccaaGreat.E
open Go
set_option maxHeartbeats 4000000
set_option maxRecDepth 100000
set_option linter.unusedSimpArgs false
set_option linter.unusedVariables false
attribute [local congr] c_wp c_ops c_op c_opS c_run c_runS c_dt c_seq c_blk c_loop c_S c_put c_bind c_mv c_pick c_nt c_ng c_bin c_binI c_binS c_beq c_B c_eqa c_hd c_cells c_blkK c_box c_vec c_mp c_nck c_mks c_appn c_mkm c_mput c_mlk c_mrm c_take c_ld c_ldF c_cellsK c_st c_fld c_fldv c_ix c_ixp c_ixv c_ixs c_sub c_subs c_len c_lens c_src c_dst c_ow c_app c_ext c_mm c_conv c_str c_isn c_fill c_rows c_boxo c_frz c_frzO c_frzA c_frzV c_spec c_specO c_opsP c_opP c_runP c_specP c_Z c_qretP c_fz c_fn c_gv c_cond c_res1 c_resL c_ret c_qret c_ite c_unr c_nx c_bk c_cut c_is
attribute [local irreducible] dwp

theorem five {p : Int} (h0 : 0 ≤ p) (h4 : p ≤ 4) : p = 0 ∨ p = 1 ∨ p = 2 ∨ p = 3 ∨ p = 4 := by omega
def ac88 : AC := (.seq (.ops [⟨(some 6), none, (.mv (.c (.bool false)))⟩]) (.seq (.seq (.ops [⟨(some 10), none, (.mv (.t 0))⟩, ⟨(some 11), none, (.bin .lss (.t 10) (.c (.int .i64 0)))⟩, ⟨(some 12), none, (.mv (.t 11))⟩, ⟨(some 13), (some (12, false)), (.mv (.t 0))⟩, ⟨(some 14), (some (12, false)), (.bin .gtr (.t 13) (.c (.int .i64 4)))⟩, ⟨(some 15), none, (.pick (.t 12) (.c (.bool true)) (.t 14))⟩, ⟨(some 16), none, (.mv (.t 15))⟩, ⟨(some 17), (some (16, false)), (.mv (.t 1))⟩, ⟨(some 18), (some (16, false)), (.bin .lss (.t 17) (.c (.int .i64 0)))⟩, ⟨(some 19), none, (.pick (.t 16) (.c (.bool true)) (.t 18))⟩, ⟨(some 20), none, (.mv (.t 19))⟩, ⟨(some 21), (some (20, false)), (.mv (.t 1))⟩, ⟨(some 22), (some (20, false)), (.bin .gtr (.t 21) (.c (.int .i64 4)))⟩, ⟨(some 23), none, (.pick (.t 20) (.c (.bool true)) (.t 22))⟩]) (.cond (.t 23) (.seq (.ops [⟨(some 6), none, (.mv (.c (.bool false)))⟩]) .ret) .skip)) (.seq (.ops [⟨(some 24), none, (.build [(.int .i64 0), (.int .i64 0), (.int .i64 0), (.int .i64 0), (.int .i64 0)] [(0, (1, (.c (.int .i64 14)))), (2, (1, (.c (.int .i64 5)))), (3, (1, (.c (.int .i64 15))))])⟩, ⟨(some 7), none, (.alloc [(.int .i64 0), (.int .i64 0), (.int .i64 0), (.int .i64 0), (.int .i64 0)])⟩, ⟨none, none, (.sto 5 (.t 7) (.t 24))⟩]) (.seq (.ops [⟨(some 25), none, (.build [(.int .i64 0), (.int .i64 0), (.int .i64 0), (.int .i64 0), (.int .i64 0)] [(0, (1, (.c (.int .i64 30)))), (1, (1, (.c (.int .i64 7)))), (4, (1, (.c (.int .i64 31))))])⟩, ⟨(some 8), none, (.alloc [(.int .i64 0), (.int .i64 0), (.int .i64 0), (.int .i64 0), (.int .i64 0)])⟩, ⟨none, none, (.sto 5 (.t 8) (.t 25))⟩]) (.seq (.ops [⟨(some 26), none, (.ld true 5 (.t 8))⟩, ⟨(some 9), none, (.alloc [(.int .i64 0), (.int .i64 0), (.int .i64 0), (.int .i64 0), (.int .i64 0)])⟩, ⟨none, none, (.sto 5 (.t 9) (.t 26))⟩]) (.seq (.seq (.ops [⟨(some 27), none, (.mv (.t 2))⟩]) (.cond (.t 27) (.ops [⟨(some 28), none, (.ld true 5 (.t 7))⟩, ⟨none, none, (.sto 5 (.t 9) (.t 28))⟩]) .skip)) (.seq (.draw (.q false ⟨(some 29), none, (.mv (.t 1))⟩ (.q false ⟨(some 30), none, (.ixp 5 1 (.t 9) (.t 29))⟩ (.q false ⟨(some 31), none, (.ld false 1 (.t 30))⟩ (.q false ⟨(some 32), none, (.mv (.t 0))⟩ (.q false ⟨(some 33), none, (.bin .shl (.c (.int .i64 1)) (.t 32))⟩ (.q false ⟨(some 34), none, (.bin .and (.t 31) (.t 33))⟩ (.q false ⟨(some 35), none, (.bin .neq (.t 34) (.c (.int .i64 0)))⟩ (.q false ⟨(some 6), none, (.mv (.t 35))⟩ .nil))))))))) .ret)))))))
theorem tr88 : Tryz.f88.body.bind (trCode Tryz.prog) = some (strip ac88) := by kernel_rfl
theorem spec88 (p q : Int) (self : Bool) : Spec Tryz.prog 88 [.fz (.int .i64 p), .fz (.int .i64 q), .fz (.bool self)] (.fz (.bool (moveR p q self))) := by
  refine spec_at (n := 33) (ars := [(.t 6)]) (ac := ac88) Tryz.func88 (by kernel_rfl) (by kernel_rfl) tr88 (by kernel_rfl) ?_
  unfold ac88
  by_cases hp : 0 ≤ p ∧ p ≤ 4 ∧ 0 ≤ q ∧ q ≤ 4
  · obtain ⟨h1, h2, h3, h4⟩ := hp
    rcases five h1 h2 with rfl | rfl | rfl | rfl | rfl <;> rcases five h3 h4 with rfl | rfl | rfl | rfl | rfl <;> cases self
    all_goals (
      iterate 9 (all_goals (try (first
        | (with_reducible refine ite_in (fun _ => ?_) (fun _ => ?_))
        | (with_reducible refine ⟨fun _ => ?_, fun _ => ?_⟩)
        | (with_reducible refine And.intro ?_ ?_)
        | (with_reducible intro _)
        | (with_reducible exact is_in _)
        | (simp -implicitDefEqProofs only [SD, SF, SL, e_nf, reduceCtorEq, implies_true, ↓reduceIte, Nat.reduceEqDiff, Nat.reduceAdd, Nat.reduceMul, Nat.reduceSub, Nat.reduceLeDiff, Nat.reduceLT, Int.reduceLT, Int.reduceLE, Int.reduceEq, Int.reduceToNat, Int.reduceAdd, Int.reduceSub, Int.reduceNeg, Int.reduceBEq, Int.reduceBNe, Nat.reduceBEq, Int.cast_ofNat_Int, decide_true, decide_false, ne_eq, eq_self_iff_true, beq_eq_false_iff_ne, bne_iff_ne, List.replicate, *]))))
      all_goals (first | decide | decide +kernel))
  · have hm : moveR p q self = false := by
      simp only [moveR, decide_eq_false_iff_not]
      omega
    iterate 30 (all_goals (try (first
      | (with_reducible refine ite_in (fun _ => ?_) (fun _ => ?_))
      | (with_reducible refine ⟨fun _ => ?_, fun _ => ?_⟩)
      | (with_reducible refine And.intro ?_ ?_)
      | (with_reducible intro _)
      | (with_reducible exact is_in _)
      | (simp -implicitDefEqProofs only [SD, SF, SL, e_nf, reduceCtorEq, implies_true, ↓reduceIte, Nat.reduceEqDiff, Nat.reduceAdd, Nat.reduceMul, Nat.reduceSub, Nat.reduceLeDiff, Nat.reduceLT, Int.reduceLT, Int.reduceLE, Int.reduceEq, Int.reduceToNat, Int.reduceAdd, Int.reduceSub, Int.reduceNeg, Int.reduceBEq, Int.reduceBNe, Nat.reduceBEq, Int.cast_ofNat_Int, decide_true, decide_false, ne_eq, eq_self_iff_true, beq_eq_false_iff_ne, bne_iff_ne, List.replicate, *]))))
    all_goals (omega)


def zeroEv : Ev := ⟨0, [], [], 0, false, [], 0, 0, [], [], [], 0, 0, false, [], [], [], ⟨[], [], 0, 0, 0, 0, 0, 0, 0⟩, 0, [], 0⟩
def creEv (es : List Ev) : Ev := match findL es 1 with
  | some e => e
  | none => zeroEv
def hasCre (es : List Ev) : Bool := (findL es 1).isSome
def hasMem : List Ev → List UInt8 → Bool
  | [], _ => false
  | e :: l, u => if e.kind = 2 ∧ e.key = u then true else hasMem l u
def ac67 : AC := (.seq (.ops [⟨(some 2), none, (.alloc [(.int .i64 0), (.str []), (.str []), (.int .i64 0), (.bool false), (.str []), (.int .i64 0), (.int .i64 0), .e0, .e0, (.str []), (.int .i64 0), (.int .i64 0), (.bool false), (.str []), .e0, .e0, .e0, .e0, (.int .i64 0), (.int .i64 0), (.int .i64 0), (.int .i64 0), (.int .i64 0), (.int .i64 0), (.int .i64 0), (.int .i64 0), (.str []), (.int .i64 0)])⟩, ⟨(some 3), none, (.mv (.c (.bool false)))⟩]) (.seq (.seq (.ops [⟨(some 6), none, (.mv (.t 0))⟩, ⟨(some 7), none, (.len (.t 6))⟩, ⟨(some 8), none, (.mv (.c (.int .i64 0)))⟩]) (.block 0 (.loop (.seq (.ops [⟨(some 9), none, (.bin .lss (.t 8) (.t 7))⟩]) (.seq (.cond (.t 9) .skip (.exit 0)) (.seq (.block 1 (.seq (.ops [⟨(some 10), none, (.ix 29 (.t 6) (.t 8))⟩, ⟨(some 11), none, (.ld true 29 (.t 10))⟩, ⟨(some 5), none, (.alloc [(.int .i64 0), (.str []), (.str []), (.int .i64 0), (.bool false), (.str []), (.int .i64 0), (.int .i64 0), .e0, .e0, (.str []), (.int .i64 0), (.int .i64 0), (.bool false), (.str []), .e0, .e0, .e0, .e0, (.int .i64 0), (.int .i64 0), (.int .i64 0), (.int .i64 0), (.int .i64 0), (.int .i64 0), (.int .i64 0), (.int .i64 0), (.str []), (.int .i64 0)])⟩, ⟨none, none, (.sto 29 (.t 5) (.t 11))⟩]) (.seq (.ops [⟨(some 12), none, (.fld 3 (.t 5))⟩, ⟨(some 13), none, (.ld false 1 (.t 12))⟩, ⟨(some 14), none, (.bin .eql (.t 13) (.c (.int .i64 1)))⟩]) (.cond (.t 14) (.seq (.ops [⟨(some 15), none, (.ld true 29 (.t 5))⟩, ⟨none, none, (.sto 29 (.t 2) (.t 15))⟩, ⟨(some 3), none, (.mv (.c (.bool true)))⟩]) .ret) .skip)))) (.ops [⟨(some 16), none, (.bin .add (.t 8) (.c (.int .i64 1)))⟩, ⟨(some 8), none, (.mv (.t 16))⟩]))))))) (.seq (.ops [⟨(some 17), none, (.build [(.int .i64 0), (.str []), (.str []), (.int .i64 0), (.bool false), (.str []), (.int .i64 0), (.int .i64 0), .e0, .e0, (.str []), (.int .i64 0), (.int .i64 0), (.bool false), (.str []), .e0, .e0, .e0, .e0, (.int .i64 0), (.int .i64 0), (.int .i64 0), (.int .i64 0), (.int .i64 0), (.int .i64 0), (.int .i64 0), (.int .i64 0), (.str []), (.int .i64 0)] [])⟩, ⟨none, none, (.sto 29 (.t 2) (.t 17))⟩, ⟨(some 3), none, (.mv (.c (.bool false)))⟩]) .ret)))
theorem tr67 : Tryz.f67.body.bind (trCode Tryz.prog) = some (strip ac67) := by kernel_rfl
theorem spec67 (es : List Ev) : Spec Tryz.prog 67 [.fz (.sl 29 (es.map encEv))] (.fz (.tup [.agg (encEv (creEv es)), .bool (hasCre es)])) := by
  refine spec_at (n := 17) (ars := [(.c true 29 2), (.t 3)]) (ac := ac67) Tryz.func67 (by kernel_rfl) (by kernel_rfl) tr67 (by kernel_rfl) ?_
  unfold ac67
  simp -implicitDefEqProofs only [SD, SF, SL, e_nf, reduceCtorEq, implies_true, ↓reduceIte, Nat.reduceEqDiff, Nat.reduceAdd, Nat.reduceMul, Nat.reduceSub, Nat.reduceLeDiff, Nat.reduceLT, Int.reduceLT, Int.reduceLE, Int.reduceEq, Int.reduceToNat, Int.reduceAdd, Int.reduceSub, Int.reduceNeg, Int.reduceBEq, Int.reduceBNe, Nat.reduceBEq, Int.cast_ofNat_Int, decide_true, decide_false, ne_eq, eq_self_iff_true, beq_eq_false_iff_ne, bne_iff_ne, List.replicate]
  intro hl
  refine loop_q (X := List Ev × List Ev × Unit) (fun n x => es = x.1 ++ x.2.1 ∧ n = x.2.1.length ∧ (findL es 1 = findL x.2.1 1)) (fun x => [(8, .int .i64 x.1.length)]) (fun _ => []) [3, 5, 9, 10, 11, 12, 13, 14, 15, 16] [5]  (es).length ([], es, ()) ⟨rfl, rfl, by first | rfl | assumption | (simp_all [findL]; done) | grind [findL]⟩ ?_ ?_
  · simp -implicitDefEqProofs only [SD, SF, SL, e_nf, reduceCtorEq, implies_true, ↓reduceIte, Nat.reduceEqDiff, Nat.reduceAdd, Nat.reduceMul, Nat.reduceSub, Nat.reduceLeDiff, Nat.reduceLT, Int.reduceLT, Int.reduceLE, Int.reduceEq, Int.reduceToNat, Int.reduceAdd, Int.reduceSub, Int.reduceNeg, Int.reduceBEq, Int.reduceBNe, Nat.reduceBEq, Int.cast_ofNat_Int, decide_true, decide_false, ne_eq, eq_self_iff_true, beq_eq_false_iff_ne, bne_iff_ne, List.replicate, findL] <;> simp
  · rintro n ⟨pre, rest, a⟩ ⟨he, rfl, hI⟩
    dsimp only at he hI
    cases rest with
    | nil =>
      obtain rfl : es = pre := by simpa using he
      clear he
      have hlt : ¬ (((es).length : Int) < ((es).length : Int)) := Int.lt_irrefl _
      iterate 30 (all_goals (try (first
        | (with_reducible refine ite_in (fun _ => ?_) (fun _ => ?_))
        | (with_reducible refine ⟨fun _ => ?_, fun _ => ?_⟩)
        | (with_reducible refine And.intro ?_ ?_)
        | (with_reducible intro _)
        | (with_reducible exact is_in _)
        | (simp -implicitDefEqProofs only [SD, SF, SL, e_nf, reduceCtorEq, implies_true, ↓reduceIte, Nat.reduceEqDiff, Nat.reduceAdd, Nat.reduceMul, Nat.reduceSub, Nat.reduceLeDiff, Nat.reduceLT, Int.reduceLT, Int.reduceLE, Int.reduceEq, Int.reduceToNat, Int.reduceAdd, Int.reduceSub, Int.reduceNeg, Int.reduceBEq, Int.reduceBNe, Nat.reduceBEq, Int.cast_ofNat_Int, decide_true, decide_false, ne_eq, eq_self_iff_true, beq_eq_false_iff_ne, bne_iff_ne, List.replicate, findL, *]))))
      all_goals ((try simp_all [creEv, hasCre, findL, zeroEv, encEv]) <;> simp -implicitDefEqProofs only [SD, SF, SL, e_nf, reduceCtorEq, implies_true, ↓reduceIte, Nat.reduceEqDiff, Nat.reduceAdd, Nat.reduceMul, Nat.reduceSub, Nat.reduceLeDiff, Nat.reduceLT, Int.reduceLT, Int.reduceLE, Int.reduceEq, Int.reduceToNat, Int.reduceAdd, Int.reduceSub, Int.reduceNeg, Int.reduceBEq, Int.reduceBNe, Nat.reduceBEq, Int.cast_ofNat_Int, decide_true, decide_false, ne_eq, eq_self_iff_true, beq_eq_false_iff_ne, bne_iff_ne, List.replicate])

    | cons x rest =>
      have hlt := cut_lt he
      have hx := cutD encEv he
      simp only [encEv] at hx
      have hw := wrap_len (n := pre.length) (m := (es).length) (cut_lt' he) (by simpa using hl)
      replace he := Hd.mk he
      iterate 30 (all_goals (try (first
        | ((with_reducible refine back_in rest.length [3, 5, 9, 10, 11, 12, 13, 14, 15, 16] [5] (pre ++ [x], rest, a) ?_ ⟨?_, ?_, ?_⟩ ?_)
           · simp
           · exact cut_snoc he.out
           · rfl
           · first | rfl | assumption | (simp_all [findL]; done) | grind [findL]
           · first | (simp -implicitDefEqProofs only [SD, SF, SL, e_nf, reduceCtorEq, implies_true, ↓reduceIte, Nat.reduceEqDiff, Nat.reduceAdd, Nat.reduceMul, Nat.reduceSub, Nat.reduceLeDiff, Nat.reduceLT, Int.reduceLT, Int.reduceLE, Int.reduceEq, Int.reduceToNat, Int.reduceAdd, Int.reduceSub, Int.reduceNeg, Int.reduceBEq, Int.reduceBNe, Nat.reduceBEq, Int.cast_ofNat_Int, decide_true, decide_false, ne_eq, eq_self_iff_true, beq_eq_false_iff_ne, bne_iff_ne, List.replicate, findL] <;> simp <;> done) | (simp -implicitDefEqProofs only [SD, SF, SL, e_nf, reduceCtorEq, implies_true, ↓reduceIte, Nat.reduceEqDiff, Nat.reduceAdd, Nat.reduceMul, Nat.reduceSub, Nat.reduceLeDiff, Nat.reduceLT, Int.reduceLT, Int.reduceLE, Int.reduceEq, Int.reduceToNat, Int.reduceAdd, Int.reduceSub, Int.reduceNeg, Int.reduceBEq, Int.reduceBNe, Nat.reduceBEq, Int.cast_ofNat_Int, decide_true, decide_false, ne_eq, eq_self_iff_true, beq_eq_false_iff_ne, bne_iff_ne, List.replicate, findL, *] <;> simp_all <;> done))
        | (with_reducible refine ite_in (fun _ => ?_) (fun _ => ?_))
        | (with_reducible refine ⟨fun _ => ?_, fun _ => ?_⟩)
        | (with_reducible refine And.intro ?_ ?_)
        | (with_reducible intro _)
        | (with_reducible exact is_in _)
        | (simp -implicitDefEqProofs only [SD, SF, SL, e_nf, reduceCtorEq, implies_true, ↓reduceIte, Nat.reduceEqDiff, Nat.reduceAdd, Nat.reduceMul, Nat.reduceSub, Nat.reduceLeDiff, Nat.reduceLT, Int.reduceLT, Int.reduceLE, Int.reduceEq, Int.reduceToNat, Int.reduceAdd, Int.reduceSub, Int.reduceNeg, Int.reduceBEq, Int.reduceBNe, Nat.reduceBEq, Int.cast_ofNat_Int, decide_true, decide_false, ne_eq, eq_self_iff_true, beq_eq_false_iff_ne, bne_iff_ne, List.replicate, findL, *]))))
      all_goals ((try simp_all [creEv, hasCre, findL, zeroEv, encEv]) <;> simp -implicitDefEqProofs only [SD, SF, SL, e_nf, reduceCtorEq, implies_true, ↓reduceIte, Nat.reduceEqDiff, Nat.reduceAdd, Nat.reduceMul, Nat.reduceSub, Nat.reduceLeDiff, Nat.reduceLT, Int.reduceLT, Int.reduceLE, Int.reduceEq, Int.reduceToNat, Int.reduceAdd, Int.reduceSub, Int.reduceNeg, Int.reduceBEq, Int.reduceBNe, Nat.reduceBEq, Int.cast_ofNat_Int, decide_true, decide_false, ne_eq, eq_self_iff_true, beq_eq_false_iff_ne, bne_iff_ne, List.replicate])
def ac33 : AC := (.seq (.ops [⟨(some 2), none, (.alloc [(.int .i64 0), (.str []), (.str []), (.int .i64 0), (.bool false), (.str []), (.int .i64 0), (.int .i64 0), .e0, .e0, (.str []), (.int .i64 0), (.int .i64 0), (.bool false), (.str []), .e0, .e0, .e0, .e0, (.int .i64 0), (.int .i64 0), (.int .i64 0), (.int .i64 0), (.int .i64 0), (.int .i64 0), (.int .i64 0), (.int .i64 0), (.str []), (.int .i64 0)])⟩, ⟨(some 3), none, (.mv (.c (.bool false)))⟩]) (.seq (.seq (.ops [⟨(some 4), none, (.mv (.c (.int .i64 0)))⟩]) (.block 0 (.loop (.seq (.seq (.ops [⟨(some 5), none, (.mv (.t 4))⟩, ⟨(some 6), none, (.mv (.t 0))⟩, ⟨(some 7), none, (.len (.t 6))⟩, ⟨(some 8), none, (.bin .lss (.t 5) (.t 7))⟩]) (.cond (.t 8) .skip (.exit 0))) (.seq (.block 1 (.seq (.ops [⟨(some 11), none, (.mv (.t 0))⟩, ⟨(some 12), none, (.mv (.t 4))⟩, ⟨(some 13), none, (.ix 29 (.t 11) (.t 12))⟩, ⟨(some 14), none, (.fld 3 (.t 13))⟩, ⟨(some 15), none, (.ld false 1 (.t 14))⟩, ⟨(some 16), none, (.bin .eql (.t 15) (.c (.int .i64 1)))⟩]) (.cond (.t 16) (.seq (.ops [⟨(some 17), none, (.mv (.t 0))⟩, ⟨(some 18), none, (.mv (.t 4))⟩, ⟨(some 19), none, (.ix 29 (.t 17) (.t 18))⟩, ⟨(some 20), none, (.ld true 29 (.t 19))⟩, ⟨none, none, (.sto 29 (.t 2) (.t 20))⟩, ⟨(some 3), none, (.mv (.c (.bool true)))⟩]) .ret) .skip))) (.ops [⟨(some 9), none, (.mv (.t 4))⟩, ⟨(some 10), none, (.bin .add (.t 9) (.c (.int .i64 1)))⟩, ⟨(some 4), none, (.mv (.t 10))⟩])))))) (.seq (.ops [⟨(some 21), none, (.build [(.int .i64 0), (.str []), (.str []), (.int .i64 0), (.bool false), (.str []), (.int .i64 0), (.int .i64 0), .e0, .e0, (.str []), (.int .i64 0), (.int .i64 0), (.bool false), (.str []), .e0, .e0, .e0, .e0, (.int .i64 0), (.int .i64 0), (.int .i64 0), (.int .i64 0), (.int .i64 0), (.int .i64 0), (.int .i64 0), (.int .i64 0), (.str []), (.int .i64 0)] [])⟩, ⟨none, none, (.sto 29 (.t 2) (.t 21))⟩, ⟨(some 3), none, (.mv (.c (.bool false)))⟩]) .ret)))
theorem tr33 : Tryz.f33.body.bind (trCode Tryz.prog) = some (strip ac33) := by kernel_rfl
theorem spec33 (es : List Ev) : Spec Tryz.prog 33 [.fz (.sl 29 (es.map encEv))] (.fz (.tup [.agg (encEv (creEv es)), .bool (hasCre es)])) := by
  refine spec_at (n := 21) (ars := [(.c true 29 2), (.t 3)]) (ac := ac33) Tryz.func33 (by kernel_rfl) (by kernel_rfl) tr33 (by kernel_rfl) ?_
  unfold ac33
  simp -implicitDefEqProofs only [SD, SF, SL, e_nf, reduceCtorEq, implies_true, ↓reduceIte, Nat.reduceEqDiff, Nat.reduceAdd, Nat.reduceMul, Nat.reduceSub, Nat.reduceLeDiff, Nat.reduceLT, Int.reduceLT, Int.reduceLE, Int.reduceEq, Int.reduceToNat, Int.reduceAdd, Int.reduceSub, Int.reduceNeg, Int.reduceBEq, Int.reduceBNe, Nat.reduceBEq, Int.cast_ofNat_Int, decide_true, decide_false, ne_eq, eq_self_iff_true, beq_eq_false_iff_ne, bne_iff_ne, List.replicate]
  refine loop_q (X := List Ev × List Ev × Unit) (fun n x => es = x.1 ++ x.2.1 ∧ n = x.2.1.length ∧ (findL es 1 = findL x.2.1 1)) (fun x => [(4, .int .i64 x.1.length)]) (fun _ => []) [3, 5, 6, 7, 8, 9, 10, 11, 12, 13, 14, 15, 16, 17, 18, 19, 20] []  (es).length ([], es, ()) ⟨rfl, rfl, by first | rfl | assumption | (simp_all [findL]; done) | grind [findL]⟩ ?_ ?_
  · simp -implicitDefEqProofs only [SD, SF, SL, e_nf, reduceCtorEq, implies_true, ↓reduceIte, Nat.reduceEqDiff, Nat.reduceAdd, Nat.reduceMul, Nat.reduceSub, Nat.reduceLeDiff, Nat.reduceLT, Int.reduceLT, Int.reduceLE, Int.reduceEq, Int.reduceToNat, Int.reduceAdd, Int.reduceSub, Int.reduceNeg, Int.reduceBEq, Int.reduceBNe, Nat.reduceBEq, Int.cast_ofNat_Int, decide_true, decide_false, ne_eq, eq_self_iff_true, beq_eq_false_iff_ne, bne_iff_ne, List.replicate, findL] <;> simp
  · rintro n ⟨pre, rest, a⟩ ⟨he, rfl, hI⟩
    dsimp only at he hI
    cases rest with
    | nil =>
      obtain rfl : es = pre := by simpa using he
      clear he
      have hlt : ¬ (((es).length : Int) < ((es).length : Int)) := Int.lt_irrefl _
      iterate 30 (all_goals (try (first
        | (with_reducible refine ite_in (fun _ => ?_) (fun _ => ?_))
        | (with_reducible refine ⟨fun _ => ?_, fun _ => ?_⟩)
        | (with_reducible refine And.intro ?_ ?_)
        | (with_reducible intro _)
        | (with_reducible exact is_in _)
        | (simp -implicitDefEqProofs only [SD, SF, SL, e_nf, reduceCtorEq, implies_true, ↓reduceIte, Nat.reduceEqDiff, Nat.reduceAdd, Nat.reduceMul, Nat.reduceSub, Nat.reduceLeDiff, Nat.reduceLT, Int.reduceLT, Int.reduceLE, Int.reduceEq, Int.reduceToNat, Int.reduceAdd, Int.reduceSub, Int.reduceNeg, Int.reduceBEq, Int.reduceBNe, Nat.reduceBEq, Int.cast_ofNat_Int, decide_true, decide_false, ne_eq, eq_self_iff_true, beq_eq_false_iff_ne, bne_iff_ne, List.replicate, findL, *]))))
      all_goals ((try simp_all [creEv, hasCre, findL, zeroEv, encEv]) <;> simp -implicitDefEqProofs only [SD, SF, SL, e_nf, reduceCtorEq, implies_true, ↓reduceIte, Nat.reduceEqDiff, Nat.reduceAdd, Nat.reduceMul, Nat.reduceSub, Nat.reduceLeDiff, Nat.reduceLT, Int.reduceLT, Int.reduceLE, Int.reduceEq, Int.reduceToNat, Int.reduceAdd, Int.reduceSub, Int.reduceNeg, Int.reduceBEq, Int.reduceBNe, Nat.reduceBEq, Int.cast_ofNat_Int, decide_true, decide_false, ne_eq, eq_self_iff_true, beq_eq_false_iff_ne, bne_iff_ne, List.replicate])

    | cons x rest =>
      have hlt := cut_lt he
      have hx := cutD encEv he
      simp only [encEv] at hx
      simp -implicitDefEqProofs only [SD, SF, SL, e_nf, reduceCtorEq, implies_true, ↓reduceIte, Nat.reduceEqDiff, Nat.reduceAdd, Nat.reduceMul, Nat.reduceSub, Nat.reduceLeDiff, Nat.reduceLT, Int.reduceLT, Int.reduceLE, Int.reduceEq, Int.reduceToNat, Int.reduceAdd, Int.reduceSub, Int.reduceNeg, Int.reduceBEq, Int.reduceBNe, Nat.reduceBEq, Int.cast_ofNat_Int, decide_true, decide_false, ne_eq, eq_self_iff_true, beq_eq_false_iff_ne, bne_iff_ne, List.replicate, findL, hlt]
      intro hl
      have hw := wrap_len (n := pre.length) (m := (es).length) (cut_lt' he) (by simpa using hl)
      replace he := Hd.mk he
      iterate 30 (all_goals (try (first
        | ((with_reducible refine back_in rest.length [3, 5, 6, 7, 8, 9, 10, 11, 12, 13, 14, 15, 16, 17, 18, 19, 20] [] (pre ++ [x], rest, a) ?_ ⟨?_, ?_, ?_⟩ ?_)
           · simp
           · exact cut_snoc he.out
           · rfl
           · first | rfl | assumption | (simp_all [findL]; done) | grind [findL]
           · first | (simp -implicitDefEqProofs only [SD, SF, SL, e_nf, reduceCtorEq, implies_true, ↓reduceIte, Nat.reduceEqDiff, Nat.reduceAdd, Nat.reduceMul, Nat.reduceSub, Nat.reduceLeDiff, Nat.reduceLT, Int.reduceLT, Int.reduceLE, Int.reduceEq, Int.reduceToNat, Int.reduceAdd, Int.reduceSub, Int.reduceNeg, Int.reduceBEq, Int.reduceBNe, Nat.reduceBEq, Int.cast_ofNat_Int, decide_true, decide_false, ne_eq, eq_self_iff_true, beq_eq_false_iff_ne, bne_iff_ne, List.replicate, findL] <;> simp <;> done) | (simp -implicitDefEqProofs only [SD, SF, SL, e_nf, reduceCtorEq, implies_true, ↓reduceIte, Nat.reduceEqDiff, Nat.reduceAdd, Nat.reduceMul, Nat.reduceSub, Nat.reduceLeDiff, Nat.reduceLT, Int.reduceLT, Int.reduceLE, Int.reduceEq, Int.reduceToNat, Int.reduceAdd, Int.reduceSub, Int.reduceNeg, Int.reduceBEq, Int.reduceBNe, Nat.reduceBEq, Int.cast_ofNat_Int, decide_true, decide_false, ne_eq, eq_self_iff_true, beq_eq_false_iff_ne, bne_iff_ne, List.replicate, findL, *] <;> simp_all <;> done))
        | (with_reducible refine ite_in (fun _ => ?_) (fun _ => ?_))
        | (with_reducible refine ⟨fun _ => ?_, fun _ => ?_⟩)
        | (with_reducible refine And.intro ?_ ?_)
        | (with_reducible intro _)
        | (with_reducible exact is_in _)
        | (simp -implicitDefEqProofs only [SD, SF, SL, e_nf, reduceCtorEq, implies_true, ↓reduceIte, Nat.reduceEqDiff, Nat.reduceAdd, Nat.reduceMul, Nat.reduceSub, Nat.reduceLeDiff, Nat.reduceLT, Int.reduceLT, Int.reduceLE, Int.reduceEq, Int.reduceToNat, Int.reduceAdd, Int.reduceSub, Int.reduceNeg, Int.reduceBEq, Int.reduceBNe, Nat.reduceBEq, Int.cast_ofNat_Int, decide_true, decide_false, ne_eq, eq_self_iff_true, beq_eq_false_iff_ne, bne_iff_ne, List.replicate, findL, *]))))
      all_goals ((try simp_all [creEv, hasCre, findL, zeroEv, encEv]) <;> simp -implicitDefEqProofs only [SD, SF, SL, e_nf, reduceCtorEq, implies_true, ↓reduceIte, Nat.reduceEqDiff, Nat.reduceAdd, Nat.reduceMul, Nat.reduceSub, Nat.reduceLeDiff, Nat.reduceLT, Int.reduceLT, Int.reduceLE, Int.reduceEq, Int.reduceToNat, Int.reduceAdd, Int.reduceSub, Int.reduceNeg, Int.reduceBEq, Int.reduceBNe, Nat.reduceBEq, Int.cast_ofNat_Int, decide_true, decide_false, ne_eq, eq_self_iff_true, beq_eq_false_iff_ne, bne_iff_ne, List.replicate])
def ac76 : AC := (.seq (.ops [⟨(some 4), none, (.mv (.c (.bool false)))⟩]) (.seq (.seq (.ops [⟨(some 5), none, (.mv (.c (.int .i64 0)))⟩]) (.block 0 (.loop (.seq (.seq (.ops [⟨(some 6), none, (.mv (.t 5))⟩, ⟨(some 7), none, (.mv (.t 0))⟩, ⟨(some 8), none, (.len (.t 7))⟩, ⟨(some 9), none, (.bin .lss (.t 6) (.t 8))⟩]) (.cond (.t 9) .skip (.exit 0))) (.seq (.block 1 (.seq (.ops [⟨(some 12), none, (.mv (.t 0))⟩, ⟨(some 13), none, (.mv (.t 5))⟩, ⟨(some 14), none, (.ix 29 (.t 12) (.t 13))⟩, ⟨(some 15), none, (.fld 3 (.t 14))⟩, ⟨(some 16), none, (.ld false 1 (.t 15))⟩, ⟨(some 17), none, (.bin .eql (.t 16) (.c (.int .i64 2)))⟩, ⟨(some 18), none, (.mv (.t 17))⟩, ⟨(some 19), (some (18, true)), (.mv (.t 0))⟩, ⟨(some 20), (some (18, true)), (.mv (.t 5))⟩, ⟨(some 21), (some (18, true)), (.ix 29 (.t 19) (.t 20))⟩, ⟨(some 22), (some (18, true)), (.fld 5 (.t 21))⟩, ⟨(some 23), (some (18, true)), (.ld false 1 (.t 22))⟩, ⟨(some 24), (some (18, true)), (.mv (.t 1))⟩, ⟨(some 25), (some (18, true)), (.bin .eql (.t 23) (.t 24))⟩, ⟨(some 26), none, (.pick (.t 18) (.t 25) (.c (.bool false)))⟩]) (.cond (.t 26) (.seq (.ops [⟨(some 4), none, (.mv (.c (.bool true)))⟩]) .ret) .skip))) (.ops [⟨(some 10), none, (.mv (.t 5))⟩, ⟨(some 11), none, (.bin .add (.t 10) (.c (.int .i64 1)))⟩, ⟨(some 5), none, (.mv (.t 11))⟩])))))) (.seq (.ops [⟨(some 4), none, (.mv (.c (.bool false)))⟩]) .ret)))
theorem tr76 : Tryz.f76.body.bind (trCode Tryz.prog) = some (strip ac76) := by kernel_rfl
theorem spec76 (es : List Ev) (u : List UInt8) : Spec Tryz.prog 76 [.fz (.sl 29 (es.map encEv)), .fz (.str u)] (.fz (.bool (hasMem es u))) := by
  refine spec_at (n := 25) (ars := [(.t 4)]) (ac := ac76) Tryz.func76 (by kernel_rfl) (by kernel_rfl) tr76 (by kernel_rfl) ?_
  unfold ac76
  simp -implicitDefEqProofs only [SD, SF, SL, e_nf, reduceCtorEq, implies_true, ↓reduceIte, Nat.reduceEqDiff, Nat.reduceAdd, Nat.reduceMul, Nat.reduceSub, Nat.reduceLeDiff, Nat.reduceLT, Int.reduceLT, Int.reduceLE, Int.reduceEq, Int.reduceToNat, Int.reduceAdd, Int.reduceSub, Int.reduceNeg, Int.reduceBEq, Int.reduceBNe, Nat.reduceBEq, Int.cast_ofNat_Int, decide_true, decide_false, ne_eq, eq_self_iff_true, beq_eq_false_iff_ne, bne_iff_ne, List.replicate]
  refine loop_q (X := List Ev × List Ev × Unit) (fun n x => es = x.1 ++ x.2.1 ∧ n = x.2.1.length ∧ (hasMem es u = hasMem x.2.1 u)) (fun x => [(5, .int .i64 x.1.length)]) (fun _ => []) [4, 6, 7, 8, 9, 10, 11, 12, 13, 14, 15, 16, 17, 18, 19, 20, 21, 22, 23, 24, 25, 26] []  (es).length ([], es, ()) ⟨rfl, rfl, by first | rfl | assumption | (simp_all [hasMem]; done) | grind [hasMem]⟩ ?_ ?_
  · simp -implicitDefEqProofs only [SD, SF, SL, e_nf, reduceCtorEq, implies_true, ↓reduceIte, Nat.reduceEqDiff, Nat.reduceAdd, Nat.reduceMul, Nat.reduceSub, Nat.reduceLeDiff, Nat.reduceLT, Int.reduceLT, Int.reduceLE, Int.reduceEq, Int.reduceToNat, Int.reduceAdd, Int.reduceSub, Int.reduceNeg, Int.reduceBEq, Int.reduceBNe, Nat.reduceBEq, Int.cast_ofNat_Int, decide_true, decide_false, ne_eq, eq_self_iff_true, beq_eq_false_iff_ne, bne_iff_ne, List.replicate, hasMem] <;> simp
  · rintro n ⟨pre, rest, a⟩ ⟨he, rfl, hI⟩
    dsimp only at he hI
    cases rest with
    | nil =>
      obtain rfl : es = pre := by simpa using he
      clear he
      have hlt : ¬ (((es).length : Int) < ((es).length : Int)) := Int.lt_irrefl _
      iterate 30 (all_goals (try (first
        | (with_reducible refine ite_in (fun _ => ?_) (fun _ => ?_))
        | (with_reducible refine ⟨fun _ => ?_, fun _ => ?_⟩)
        | (with_reducible refine And.intro ?_ ?_)
        | (with_reducible intro _)
        | (with_reducible exact is_in _)
        | (simp -implicitDefEqProofs only [SD, SF, SL, e_nf, reduceCtorEq, implies_true, ↓reduceIte, Nat.reduceEqDiff, Nat.reduceAdd, Nat.reduceMul, Nat.reduceSub, Nat.reduceLeDiff, Nat.reduceLT, Int.reduceLT, Int.reduceLE, Int.reduceEq, Int.reduceToNat, Int.reduceAdd, Int.reduceSub, Int.reduceNeg, Int.reduceBEq, Int.reduceBNe, Nat.reduceBEq, Int.cast_ofNat_Int, decide_true, decide_false, ne_eq, eq_self_iff_true, beq_eq_false_iff_ne, bne_iff_ne, List.replicate, hasMem, *]))))
      all_goals (simp_all [hasMem])

    | cons x rest =>
      have hlt := cut_lt he
      have hx := cutD encEv he
      simp only [encEv] at hx
      simp -implicitDefEqProofs only [SD, SF, SL, e_nf, reduceCtorEq, implies_true, ↓reduceIte, Nat.reduceEqDiff, Nat.reduceAdd, Nat.reduceMul, Nat.reduceSub, Nat.reduceLeDiff, Nat.reduceLT, Int.reduceLT, Int.reduceLE, Int.reduceEq, Int.reduceToNat, Int.reduceAdd, Int.reduceSub, Int.reduceNeg, Int.reduceBEq, Int.reduceBNe, Nat.reduceBEq, Int.cast_ofNat_Int, decide_true, decide_false, ne_eq, eq_self_iff_true, beq_eq_false_iff_ne, bne_iff_ne, List.replicate, hasMem, hlt]
      intro hl
      have hw := wrap_len (n := pre.length) (m := (es).length) (cut_lt' he) (by simpa using hl)
      replace he := Hd.mk he
      iterate 30 (all_goals (try (first
        | ((with_reducible refine back_in rest.length [4, 6, 7, 8, 9, 10, 11, 12, 13, 14, 15, 16, 17, 18, 19, 20, 21, 22, 23, 24, 25, 26] [] (pre ++ [x], rest, a) ?_ ⟨?_, ?_, ?_⟩ ?_)
           · simp
           · exact cut_snoc he.out
           · rfl
           · first | rfl | assumption | (simp_all [hasMem]; done) | grind [hasMem]
           · first | (simp -implicitDefEqProofs only [SD, SF, SL, e_nf, reduceCtorEq, implies_true, ↓reduceIte, Nat.reduceEqDiff, Nat.reduceAdd, Nat.reduceMul, Nat.reduceSub, Nat.reduceLeDiff, Nat.reduceLT, Int.reduceLT, Int.reduceLE, Int.reduceEq, Int.reduceToNat, Int.reduceAdd, Int.reduceSub, Int.reduceNeg, Int.reduceBEq, Int.reduceBNe, Nat.reduceBEq, Int.cast_ofNat_Int, decide_true, decide_false, ne_eq, eq_self_iff_true, beq_eq_false_iff_ne, bne_iff_ne, List.replicate, hasMem] <;> simp <;> done) | (simp -implicitDefEqProofs only [SD, SF, SL, e_nf, reduceCtorEq, implies_true, ↓reduceIte, Nat.reduceEqDiff, Nat.reduceAdd, Nat.reduceMul, Nat.reduceSub, Nat.reduceLeDiff, Nat.reduceLT, Int.reduceLT, Int.reduceLE, Int.reduceEq, Int.reduceToNat, Int.reduceAdd, Int.reduceSub, Int.reduceNeg, Int.reduceBEq, Int.reduceBNe, Nat.reduceBEq, Int.cast_ofNat_Int, decide_true, decide_false, ne_eq, eq_self_iff_true, beq_eq_false_iff_ne, bne_iff_ne, List.replicate, hasMem, *] <;> simp_all <;> done))
        | (with_reducible refine ite_in (fun _ => ?_) (fun _ => ?_))
        | (with_reducible refine ⟨fun _ => ?_, fun _ => ?_⟩)
        | (with_reducible refine And.intro ?_ ?_)
        | (with_reducible intro _)
        | (with_reducible exact is_in _)
        | (simp -implicitDefEqProofs only [SD, SF, SL, e_nf, reduceCtorEq, implies_true, ↓reduceIte, Nat.reduceEqDiff, Nat.reduceAdd, Nat.reduceMul, Nat.reduceSub, Nat.reduceLeDiff, Nat.reduceLT, Int.reduceLT, Int.reduceLE, Int.reduceEq, Int.reduceToNat, Int.reduceAdd, Int.reduceSub, Int.reduceNeg, Int.reduceBEq, Int.reduceBNe, Nat.reduceBEq, Int.cast_ofNat_Int, decide_true, decide_false, ne_eq, eq_self_iff_true, beq_eq_false_iff_ne, bne_iff_ne, List.replicate, hasMem, *]))))
      all_goals (simp_all [hasMem])

end Go.Proofs.YtcolebkklojccaaGreat.E
