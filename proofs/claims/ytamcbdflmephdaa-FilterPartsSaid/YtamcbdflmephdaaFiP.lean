/-
  FiP: walks of functions of the program at data level.
-/
import Derived.Test.YtamcbdflmephdaaProg
import Derived.Test.YtamcbdflmephdaaEngZ
import Derived.Test.YtamcbdflmephdaaFiO
import Derived.KernelRfl
set_option linter.unusedVariables false
set_option linter.unusedSimpArgs false
namespace Go.Proofs.Ytamcbdflmephdaa.E
open Go
set_option maxHeartbeats 4000000
set_option maxRecDepth 100000
set_option linter.unusedSimpArgs false
set_option linter.unusedVariables false
attribute [local congr] c_wp c_ops c_op c_opS c_run c_runS c_dt c_seq c_blk c_loop c_S c_put c_bind c_mv c_pick c_nt c_ng c_bin c_binI c_binS c_beq c_B c_eqa c_hd c_cells c_blkK c_box c_vec c_mp c_nck c_mks c_appn c_mkm c_mput c_mlk c_mrm c_take c_ld c_ldF c_cellsK c_st c_fld c_fldv c_ix c_ixp c_ixv c_ixs c_sub c_subs c_len c_lens c_src c_dst c_ow c_app c_ext c_mm c_conv c_str c_isn c_fill c_rows c_boxo c_frz c_frzO c_frzA c_frzV c_spec c_specO c_opsP c_opP c_runP c_specP c_Z c_qretP c_fz c_fn c_gv c_cond c_res1 c_resL c_ret c_qret c_ite c_unr c_nx c_bk c_cut c_is
attribute [local irreducible] dwp

def encCn (e : Ev) : List DV := [.str e.txt, .int .i64 e.n, .int .i64 e.target, .bool e.thread, .str e.via, .sl 1 (e.allow.map encS), .sl 1 (e.deny.map encS),
  .sl 2 (e.lv.users.map encLU), .sl 2 (e.lv.kinds.map encLK), .int .i64 e.lv.a2, .int .i64 e.lv.a3, .int .i64 e.lv.a4, .int .i64 e.lv.a5, .int .i64 e.lv.a6, .int .i64 e.lv.a7, .int .i64 e.lv.a8]
def cnEq (a b : Ev) : Prop := a.txt = b.txt ∧ a.n = b.n ∧ a.target = b.target ∧ a.thread = b.thread ∧ a.via = b.via ∧ a.allow = b.allow ∧ a.deny = b.deny ∧ a.lv = b.lv
instance (a b : Ev) : Decidable (cnEq a b) := by unfold cnEq; infer_instance
theorem Lv_eq (a b : Lv) : (a = b) = (a.users = b.users ∧ a.kinds = b.kinds ∧ a.a2 = b.a2 ∧ a.a3 = b.a3 ∧ a.a4 = b.a4 ∧ a.a5 = b.a5 ∧ a.a6 = b.a6 ∧ a.a7 = b.a7 ∧ a.a8 = b.a8) := by cases a; cases b; simp
theorem Ev_eq (a b : Ev) : (a = b) = (a.ident = b.ident ∧ a.room = b.room ∧ a.sender = b.sender ∧ a.kind = b.kind ∧ a.isState = b.isState ∧ a.key = b.key ∧ a.time = b.time ∧ a.depth = b.depth ∧ a.prev = b.prev ∧ a.auth = b.auth ∧ cnEq a b ∧ a.hash = b.hash ∧ a.sigS = b.sigS ∧ a.sigN = b.sigN) := by
  cases a; cases b
  simp only [Ev.mk.injEq, cnEq]
  apply propext
  constructor
  · rintro ⟨h1, h2, h3, h4, h5, h6, h7, h8, h9, h10, h11, h12, h13, h14, h15, h16, h17, h18, h19, h20, h21⟩
    exact ⟨h1, h2, h3, h4, h5, h6, h7, h8, h9, h10, ⟨h11, h12, h13, h14, h15, h16, h17, h18⟩, h19, h20, h21⟩
  · rintro ⟨h1, h2, h3, h4, h5, h6, h7, h8, h9, h10, ⟨h11, h12, h13, h14, h15, h16, h17, h18⟩, h19, h20, h21⟩
    exact ⟨h1, h2, h3, h4, h5, h6, h7, h8, h9, h10, h11, h12, h13, h14, h15, h16, h17, h18, h19, h20, h21⟩

def shortB (f : Flt) : Bool := decide (f.kinds.length ≤ 40) && decide (f.nots.length ≤ 40) && decide (f.senders.length ≤ 40) && f.senders.all (fun u => decide (u.length ≤ 100))
def lightE (e : Ev) : Bool := decide (e.prev.length ≤ 60) && decide (e.auth.length ≤ 60) && decide (e.room.length ≤ 100) && decide (e.sender.length ≤ 100) && decide (e.key.length ≤ 100) && decide (e.txt.length ≤ 500) && decide (e.allow.length ≤ 110) && decide (e.deny.length ≤ 110) && decide (e.lv.users.length ≤ 110) && decide (e.lv.kinds.length ≤ 20)
def lightB (es : List Ev) : Bool := decide (es.length ≤ 40) && es.all lightE
def ac9 : AC := (.seq (.ops [⟨(some 1), none, (.box (.t 0))⟩, ⟨(some 2), none, (.mv (.c (.bool false)))⟩]) (.seq (.seq (.ops [⟨(some 4), none, (.fld 0 (.t 1))⟩, ⟨(some 5), none, (.ld false 1 (.t 4))⟩, ⟨(some 6), none, (.len (.t 5))⟩, ⟨(some 7), none, (.bin .gtr (.t 6) (.c (.int .i64 40)))⟩, ⟨(some 8), none, (.mv (.t 7))⟩, ⟨(some 9), (some (8, false)), (.fld 1 (.t 1))⟩, ⟨(some 10), (some (8, false)), (.ld false 1 (.t 9))⟩, ⟨(some 11), (some (8, false)), (.len (.t 10))⟩, ⟨(some 12), (some (8, false)), (.bin .gtr (.t 11) (.c (.int .i64 40)))⟩, ⟨(some 13), none, (.pick (.t 8) (.c (.bool true)) (.t 12))⟩, ⟨(some 14), none, (.mv (.t 13))⟩, ⟨(some 15), (some (14, false)), (.fld 2 (.t 1))⟩, ⟨(some 16), (some (14, false)), (.ld false 1 (.t 15))⟩, ⟨(some 17), (some (14, false)), (.len (.t 16))⟩, ⟨(some 18), (some (14, false)), (.bin .gtr (.t 17) (.c (.int .i64 40)))⟩, ⟨(some 19), none, (.pick (.t 14) (.c (.bool true)) (.t 18))⟩]) (.cond (.t 19) (.seq (.ops [⟨(some 2), none, (.mv (.c (.bool false)))⟩]) .ret) .skip)) (.seq (.seq (.ops [⟨(some 3), none, (.mv (.c (.int .i64 0)))⟩]) (.block 0 (.loop (.seq (.seq (.ops [⟨(some 20), none, (.mv (.t 3))⟩, ⟨(some 21), none, (.fld 2 (.t 1))⟩, ⟨(some 22), none, (.ld false 1 (.t 21))⟩, ⟨(some 23), none, (.len (.t 22))⟩, ⟨(some 24), none, (.bin .lss (.t 20) (.t 23))⟩]) (.cond (.t 24) .skip (.exit 0))) (.seq (.block 1 (.seq (.ops [⟨(some 27), none, (.fld 2 (.t 1))⟩, ⟨(some 28), none, (.ld false 1 (.t 27))⟩, ⟨(some 29), none, (.mv (.t 3))⟩, ⟨(some 30), none, (.ix 1 (.t 28) (.t 29))⟩, ⟨(some 31), none, (.ld false 1 (.t 30))⟩, ⟨(some 32), none, (.lens (.t 31))⟩, ⟨(some 33), none, (.bin .gtr (.t 32) (.c (.int .i64 100)))⟩]) (.cond (.t 33) (.seq (.ops [⟨(some 2), none, (.mv (.c (.bool false)))⟩]) .ret) .skip))) (.ops [⟨(some 25), none, (.mv (.t 3))⟩, ⟨(some 26), none, (.bin .add (.t 25) (.c (.int .i64 1)))⟩, ⟨(some 3), none, (.mv (.t 26))⟩])))))) (.seq (.ops [⟨(some 2), none, (.mv (.c (.bool true)))⟩]) .ret))))
theorem tr9 : Try.f9.body.bind (trCode Try.prog) = some (strip ac9) := by kernel_rfl
theorem spec9 (f : Flt) : Spec Try.prog 9 [.fz (.agg (encFl f))] (.fz (.bool (shortB f))) := by
  refine spec_at (n := 33) (ars := [(.t 2)]) (ac := ac9) Try.func9 (by kernel_rfl) (by kernel_rfl) tr9 (by kernel_rfl) ?_
  unfold ac9
  iterate 16 (all_goals (try (first
    | (with_reducible refine ite_in (fun _ => ?_) (fun _ => ?_))
    | (with_reducible refine ⟨fun _ => ?_, fun _ => ?_⟩)
    | (with_reducible refine And.intro ?_ ?_)
    | (with_reducible intro _)
    | (with_reducible exact is_in _)
    | ((with_reducible refine eq_in ?_); (first | (simp_all [shortB]; done) | (simp [shortB]; omega)); done)
    | (simp -implicitDefEqProofs only [SD, SF, SL, e_nf, reduceCtorEq, implies_true, ↓reduceIte, Nat.reduceEqDiff, Nat.reduceAdd, Nat.reduceMul, Nat.reduceSub, Nat.reduceLeDiff, Nat.reduceLT, Int.reduceLT, Int.reduceLE, Int.reduceEq, Int.reduceToNat, Int.reduceAdd, Int.reduceSub, Int.reduceNeg, Int.reduceBEq, Int.reduceBNe, Nat.reduceBEq, Int.cast_ofNat_Int, decide_true, decide_false, ne_eq, eq_self_iff_true, beq_eq_false_iff_ne, bne_iff_ne, List.replicate, encFl, *]))))
  refine loop_q (X := List (List UInt8) × List (List UInt8) × Unit) (fun n x => f.senders = x.1 ++ x.2.1 ∧ n = x.2.1.length ∧ (x.1.all (fun u => decide (u.length ≤ 100)) = true)) (fun x => [(3, .int .i64 x.1.length)]) (fun _ => []) [2, 20, 21, 22, 23, 24, 25, 26, 27, 28, 29, 30, 31, 32, 33] []  (f.senders).length ([], f.senders, ()) ⟨rfl, rfl, by first | rfl | exact all_snoc hI (by simp; omega)⟩ ?_ ?_
  · simp -implicitDefEqProofs only [SD, SF, SL, e_nf, reduceCtorEq, implies_true, ↓reduceIte, Nat.reduceEqDiff, Nat.reduceAdd, Nat.reduceMul, Nat.reduceSub, Nat.reduceLeDiff, Nat.reduceLT, Int.reduceLT, Int.reduceLE, Int.reduceEq, Int.reduceToNat, Int.reduceAdd, Int.reduceSub, Int.reduceNeg, Int.reduceBEq, Int.reduceBNe, Nat.reduceBEq, Int.cast_ofNat_Int, decide_true, decide_false, ne_eq, eq_self_iff_true, beq_eq_false_iff_ne, bne_iff_ne, List.replicate, encFl] <;> simp
  · rintro n ⟨pre, rest, a⟩ ⟨he, rfl, hI⟩
    dsimp only at he hI
    cases rest with
    | nil =>
      obtain rfl : f.senders = pre := by simpa using he
      clear he
      have hlt : ¬ (((f.senders).length : Int) < ((f.senders).length : Int)) := Int.lt_irrefl _
      iterate 30 (all_goals (try (first
        | (with_reducible refine ite_in (fun _ => ?_) (fun _ => ?_))
        | (with_reducible refine ⟨fun _ => ?_, fun _ => ?_⟩)
        | (with_reducible refine And.intro ?_ ?_)
        | (with_reducible intro _)
        | (with_reducible exact is_in _)
        | ((with_reducible refine eq_in ?_); ((have hq := all_cut (p := fun u : List UInt8 => decide (u.length ≤ 100)) he.out (by simp; omega); simp [shortB, hq]; done)); done)
        | (simp -implicitDefEqProofs only [SD, SF, SL, e_nf, reduceCtorEq, implies_true, ↓reduceIte, Nat.reduceEqDiff, Nat.reduceAdd, Nat.reduceMul, Nat.reduceSub, Nat.reduceLeDiff, Nat.reduceLT, Int.reduceLT, Int.reduceLE, Int.reduceEq, Int.reduceToNat, Int.reduceAdd, Int.reduceSub, Int.reduceNeg, Int.reduceBEq, Int.reduceBNe, Nat.reduceBEq, Int.cast_ofNat_Int, decide_true, decide_false, ne_eq, eq_self_iff_true, beq_eq_false_iff_ne, bne_iff_ne, List.replicate, encFl, *]))))
      all_goals ((simp only [shortB, hI, Bool.and_true]; simp; omega))

    | cons x rest =>
      have hlt := cut_lt he
      have hx := cutD encS he
      simp only [encS] at hx
      simp -implicitDefEqProofs only [SD, SF, SL, e_nf, reduceCtorEq, implies_true, ↓reduceIte, Nat.reduceEqDiff, Nat.reduceAdd, Nat.reduceMul, Nat.reduceSub, Nat.reduceLeDiff, Nat.reduceLT, Int.reduceLT, Int.reduceLE, Int.reduceEq, Int.reduceToNat, Int.reduceAdd, Int.reduceSub, Int.reduceNeg, Int.reduceBEq, Int.reduceBNe, Nat.reduceBEq, Int.cast_ofNat_Int, decide_true, decide_false, ne_eq, eq_self_iff_true, beq_eq_false_iff_ne, bne_iff_ne, List.replicate, encFl, hlt]
      intro hl
      have hw := wrap_len (n := pre.length) (m := (f.senders).length) (cut_lt' he) (by simpa using hl)
      replace he := Hd.mk he
      iterate 30 (all_goals (try (first
        | ((with_reducible refine back_in rest.length [2, 20, 21, 22, 23, 24, 25, 26, 27, 28, 29, 30, 31, 32, 33] [] (pre ++ [x], rest, a) ?_ ⟨?_, ?_, ?_⟩ ?_)
           · simp
           · exact cut_snoc he.out
           · rfl
           · first | rfl | exact all_snoc hI (by simp; omega)
           · first | (simp -implicitDefEqProofs only [SD, SF, SL, e_nf, reduceCtorEq, implies_true, ↓reduceIte, Nat.reduceEqDiff, Nat.reduceAdd, Nat.reduceMul, Nat.reduceSub, Nat.reduceLeDiff, Nat.reduceLT, Int.reduceLT, Int.reduceLE, Int.reduceEq, Int.reduceToNat, Int.reduceAdd, Int.reduceSub, Int.reduceNeg, Int.reduceBEq, Int.reduceBNe, Nat.reduceBEq, Int.cast_ofNat_Int, decide_true, decide_false, ne_eq, eq_self_iff_true, beq_eq_false_iff_ne, bne_iff_ne, List.replicate, encFl] <;> simp <;> done) | (simp -implicitDefEqProofs only [SD, SF, SL, e_nf, reduceCtorEq, implies_true, ↓reduceIte, Nat.reduceEqDiff, Nat.reduceAdd, Nat.reduceMul, Nat.reduceSub, Nat.reduceLeDiff, Nat.reduceLT, Int.reduceLT, Int.reduceLE, Int.reduceEq, Int.reduceToNat, Int.reduceAdd, Int.reduceSub, Int.reduceNeg, Int.reduceBEq, Int.reduceBNe, Nat.reduceBEq, Int.cast_ofNat_Int, decide_true, decide_false, ne_eq, eq_self_iff_true, beq_eq_false_iff_ne, bne_iff_ne, List.replicate, encFl, *] <;> simp_all <;> done))
        | (with_reducible refine ite_in (fun _ => ?_) (fun _ => ?_))
        | (with_reducible refine ⟨fun _ => ?_, fun _ => ?_⟩)
        | (with_reducible refine And.intro ?_ ?_)
        | (with_reducible intro _)
        | (with_reducible exact is_in _)
        | ((with_reducible refine eq_in ?_); ((have hq := all_cut (p := fun u : List UInt8 => decide (u.length ≤ 100)) he.out (by simp; omega); simp [shortB, hq]; done)); done)
        | (simp -implicitDefEqProofs only [SD, SF, SL, e_nf, reduceCtorEq, implies_true, ↓reduceIte, Nat.reduceEqDiff, Nat.reduceAdd, Nat.reduceMul, Nat.reduceSub, Nat.reduceLeDiff, Nat.reduceLT, Int.reduceLT, Int.reduceLE, Int.reduceEq, Int.reduceToNat, Int.reduceAdd, Int.reduceSub, Int.reduceNeg, Int.reduceBEq, Int.reduceBNe, Nat.reduceBEq, Int.cast_ofNat_Int, decide_true, decide_false, ne_eq, eq_self_iff_true, beq_eq_false_iff_ne, bne_iff_ne, List.replicate, encFl, *]))))
def ac13 : AC := (.seq (.ops [⟨(some 2), none, (.mv (.c (.bool false)))⟩]) (.seq (.seq (.ops [⟨(some 5), none, (.mv (.t 0))⟩, ⟨(some 6), none, (.len (.t 5))⟩, ⟨(some 7), none, (.bin .gtr (.t 6) (.c (.int .i64 40)))⟩]) (.cond (.t 7) (.seq (.ops [⟨(some 2), none, (.mv (.c (.bool false)))⟩]) .ret) .skip)) (.seq (.seq (.ops [⟨(some 3), none, (.mv (.c (.int .i64 0)))⟩]) (.block 0 (.loop (.seq (.seq (.ops [⟨(some 8), none, (.mv (.t 3))⟩, ⟨(some 9), none, (.mv (.t 0))⟩, ⟨(some 10), none, (.len (.t 9))⟩, ⟨(some 11), none, (.bin .lss (.t 8) (.t 10))⟩]) (.cond (.t 11) .skip (.exit 0))) (.seq (.block 1 (.seq (.ops [⟨(some 14), none, (.mv (.t 0))⟩, ⟨(some 15), none, (.mv (.t 3))⟩, ⟨(some 16), none, (.ix 29 (.t 14) (.t 15))⟩, ⟨(some 17), none, (.fld 10 (.t 16))⟩, ⟨(some 18), none, (.ld true 16 (.t 17))⟩, ⟨(some 4), none, (.alloc [(.str []), (.int .i64 0), (.int .i64 0), (.bool false), (.str []), .e0, .e0, .e0, .e0, (.int .i64 0), (.int .i64 0), (.int .i64 0), (.int .i64 0), (.int .i64 0), (.int .i64 0), (.int .i64 0)])⟩, ⟨none, none, (.sto 16 (.t 4) (.t 18))⟩]) (.seq (.ops [⟨(some 19), none, (.mv (.t 0))⟩, ⟨(some 20), none, (.mv (.t 3))⟩, ⟨(some 21), none, (.ix 29 (.t 19) (.t 20))⟩, ⟨(some 22), none, (.fld 8 (.t 21))⟩, ⟨(some 23), none, (.ld false 1 (.t 22))⟩, ⟨(some 24), none, (.len (.t 23))⟩, ⟨(some 25), none, (.bin .gtr (.t 24) (.c (.int .i64 60)))⟩, ⟨(some 26), none, (.mv (.t 25))⟩, ⟨(some 27), (some (26, false)), (.mv (.t 0))⟩, ⟨(some 28), (some (26, false)), (.mv (.t 3))⟩, ⟨(some 29), (some (26, false)), (.ix 29 (.t 27) (.t 28))⟩, ⟨(some 30), (some (26, false)), (.fld 9 (.t 29))⟩, ⟨(some 31), (some (26, false)), (.ld false 1 (.t 30))⟩, ⟨(some 32), (some (26, false)), (.len (.t 31))⟩, ⟨(some 33), (some (26, false)), (.bin .gtr (.t 32) (.c (.int .i64 60)))⟩, ⟨(some 34), none, (.pick (.t 26) (.c (.bool true)) (.t 33))⟩, ⟨(some 35), none, (.mv (.t 34))⟩, ⟨(some 36), (some (35, false)), (.mv (.t 0))⟩, ⟨(some 37), (some (35, false)), (.mv (.t 3))⟩, ⟨(some 38), (some (35, false)), (.ix 29 (.t 36) (.t 37))⟩, ⟨(some 39), (some (35, false)), (.fld 1 (.t 38))⟩, ⟨(some 40), (some (35, false)), (.ld false 1 (.t 39))⟩, ⟨(some 41), (some (35, false)), (.lens (.t 40))⟩, ⟨(some 42), (some (35, false)), (.bin .gtr (.t 41) (.c (.int .i64 100)))⟩, ⟨(some 43), none, (.pick (.t 35) (.c (.bool true)) (.t 42))⟩, ⟨(some 44), none, (.mv (.t 43))⟩, ⟨(some 45), (some (44, false)), (.mv (.t 0))⟩, ⟨(some 46), (some (44, false)), (.mv (.t 3))⟩, ⟨(some 47), (some (44, false)), (.ix 29 (.t 45) (.t 46))⟩, ⟨(some 48), (some (44, false)), (.fld 2 (.t 47))⟩, ⟨(some 49), (some (44, false)), (.ld false 1 (.t 48))⟩, ⟨(some 50), (some (44, false)), (.lens (.t 49))⟩, ⟨(some 51), (some (44, false)), (.bin .gtr (.t 50) (.c (.int .i64 100)))⟩, ⟨(some 52), none, (.pick (.t 44) (.c (.bool true)) (.t 51))⟩, ⟨(some 53), none, (.mv (.t 52))⟩, ⟨(some 54), (some (53, false)), (.mv (.t 0))⟩, ⟨(some 55), (some (53, false)), (.mv (.t 3))⟩, ⟨(some 56), (some (53, false)), (.ix 29 (.t 54) (.t 55))⟩, ⟨(some 57), (some (53, false)), (.fld 5 (.t 56))⟩, ⟨(some 58), (some (53, false)), (.ld false 1 (.t 57))⟩, ⟨(some 59), (some (53, false)), (.lens (.t 58))⟩, ⟨(some 60), (some (53, false)), (.bin .gtr (.t 59) (.c (.int .i64 100)))⟩, ⟨(some 61), none, (.pick (.t 53) (.c (.bool true)) (.t 60))⟩, ⟨(some 62), none, (.mv (.t 61))⟩, ⟨(some 63), (some (62, false)), (.fld 0 (.t 4))⟩, ⟨(some 64), (some (62, false)), (.ld false 1 (.t 63))⟩, ⟨(some 65), (some (62, false)), (.lens (.t 64))⟩, ⟨(some 66), (some (62, false)), (.bin .gtr (.t 65) (.c (.int .i64 500)))⟩, ⟨(some 67), none, (.pick (.t 62) (.c (.bool true)) (.t 66))⟩, ⟨(some 68), none, (.mv (.t 67))⟩, ⟨(some 69), (some (68, false)), (.fld 5 (.t 4))⟩, ⟨(some 70), (some (68, false)), (.ld false 1 (.t 69))⟩, ⟨(some 71), (some (68, false)), (.len (.t 70))⟩, ⟨(some 72), (some (68, false)), (.bin .gtr (.t 71) (.c (.int .i64 110)))⟩, ⟨(some 73), none, (.pick (.t 68) (.c (.bool true)) (.t 72))⟩, ⟨(some 74), none, (.mv (.t 73))⟩, ⟨(some 75), (some (74, false)), (.fld 6 (.t 4))⟩, ⟨(some 76), (some (74, false)), (.ld false 1 (.t 75))⟩, ⟨(some 77), (some (74, false)), (.len (.t 76))⟩, ⟨(some 78), (some (74, false)), (.bin .gtr (.t 77) (.c (.int .i64 110)))⟩, ⟨(some 79), none, (.pick (.t 74) (.c (.bool true)) (.t 78))⟩, ⟨(some 80), none, (.mv (.t 79))⟩, ⟨(some 81), (some (80, false)), (.fld 7 (.t 4))⟩, ⟨(some 82), (some (80, false)), (.fld 0 (.t 81))⟩, ⟨(some 83), (some (80, false)), (.ld false 1 (.t 82))⟩, ⟨(some 84), (some (80, false)), (.len (.t 83))⟩, ⟨(some 85), (some (80, false)), (.bin .gtr (.t 84) (.c (.int .i64 110)))⟩, ⟨(some 86), none, (.pick (.t 80) (.c (.bool true)) (.t 85))⟩, ⟨(some 87), none, (.mv (.t 86))⟩, ⟨(some 88), (some (87, false)), (.fld 7 (.t 4))⟩, ⟨(some 89), (some (87, false)), (.fld 1 (.t 88))⟩, ⟨(some 90), (some (87, false)), (.ld false 1 (.t 89))⟩, ⟨(some 91), (some (87, false)), (.len (.t 90))⟩, ⟨(some 92), (some (87, false)), (.bin .gtr (.t 91) (.c (.int .i64 20)))⟩, ⟨(some 93), none, (.pick (.t 87) (.c (.bool true)) (.t 92))⟩]) (.cond (.t 93) (.seq (.ops [⟨(some 2), none, (.mv (.c (.bool false)))⟩]) .ret) .skip)))) (.ops [⟨(some 12), none, (.mv (.t 3))⟩, ⟨(some 13), none, (.bin .add (.t 12) (.c (.int .i64 1)))⟩, ⟨(some 3), none, (.mv (.t 13))⟩])))))) (.seq (.ops [⟨(some 2), none, (.mv (.c (.bool true)))⟩]) .ret))))
theorem tr13 : Try.f13.body.bind (trCode Try.prog) = some (strip ac13) := by kernel_rfl
theorem spec13 (es : List Ev) : Spec Try.prog 13 [.fz (.sl 29 (es.map encEv))] (.fz (.bool (lightB es))) := by
  refine spec_at (n := 93) (ars := [(.t 2)]) (ac := ac13) Try.func13 (by kernel_rfl) (by kernel_rfl) tr13 (by kernel_rfl) ?_
  unfold ac13
  iterate 8 (all_goals (try (first
    | (with_reducible refine ite_in (fun _ => ?_) (fun _ => ?_))
    | (with_reducible refine ⟨fun _ => ?_, fun _ => ?_⟩)
    | (with_reducible refine And.intro ?_ ?_)
    | (with_reducible intro _)
    | (with_reducible exact is_in _)
    | ((with_reducible refine eq_in ?_); (first | (simp_all [lightB]; done) | (simp [lightB]; omega)); done)
    | (simp -implicitDefEqProofs only [SD, SF, SL, e_nf, reduceCtorEq, implies_true, ↓reduceIte, Nat.reduceEqDiff, Nat.reduceAdd, Nat.reduceMul, Nat.reduceSub, Nat.reduceLeDiff, Nat.reduceLT, Int.reduceLT, Int.reduceLE, Int.reduceEq, Int.reduceToNat, Int.reduceAdd, Int.reduceSub, Int.reduceNeg, Int.reduceBEq, Int.reduceBNe, Nat.reduceBEq, Int.cast_ofNat_Int, decide_true, decide_false, ne_eq, eq_self_iff_true, beq_eq_false_iff_ne, bne_iff_ne, List.replicate, encEv, *]))))
  refine loop_q (X := List Ev × List Ev × Unit) (fun n x => es = x.1 ++ x.2.1 ∧ n = x.2.1.length ∧ (x.1.all lightE = true)) (fun x => [(3, .int .i64 x.1.length)]) (fun _ => []) [2, 4, 8, 9, 10, 11, 12, 13, 14, 15, 16, 17, 18, 19, 20, 21, 22, 23, 24, 25, 26, 27, 28, 29, 30, 31, 32, 33, 34, 35, 36, 37, 38, 39, 40, 41, 42, 43, 44, 45, 46, 47, 48, 49, 50, 51, 52, 53, 54, 55, 56, 57, 58, 59, 60, 61, 62, 63, 64, 65, 66, 67, 68, 69, 70, 71, 72, 73, 74, 75, 76, 77, 78, 79, 80, 81, 82, 83, 84, 85, 86, 87, 88, 89, 90, 91, 92, 93] [4]  (es).length ([], es, ()) ⟨rfl, rfl, by first | rfl | exact all_snoc hI (by simp [lightE]; omega)⟩ ?_ ?_
  · simp -implicitDefEqProofs only [SD, SF, SL, e_nf, reduceCtorEq, implies_true, ↓reduceIte, Nat.reduceEqDiff, Nat.reduceAdd, Nat.reduceMul, Nat.reduceSub, Nat.reduceLeDiff, Nat.reduceLT, Int.reduceLT, Int.reduceLE, Int.reduceEq, Int.reduceToNat, Int.reduceAdd, Int.reduceSub, Int.reduceNeg, Int.reduceBEq, Int.reduceBNe, Nat.reduceBEq, Int.cast_ofNat_Int, decide_true, decide_false, ne_eq, eq_self_iff_true, beq_eq_false_iff_ne, bne_iff_ne, List.replicate] <;> simp
  · rintro n ⟨pre, rest, a⟩ ⟨he, rfl, hI⟩
    dsimp only at he hI
    cases rest with
    | nil =>
      obtain rfl : es = pre := by simpa using he
      clear he
      have hlt : ¬ (((es).length : Int) < ((es).length : Int)) := Int.lt_irrefl _
      iterate 60 (all_goals (try (first
        | (with_reducible refine ite_in (fun _ => ?_) (fun _ => ?_))
        | (with_reducible refine ⟨fun _ => ?_, fun _ => ?_⟩)
        | (with_reducible refine And.intro ?_ ?_)
        | (with_reducible intro _)
        | (with_reducible exact is_in _)
        | ((with_reducible refine eq_in ?_); ((have hq := all_cut (p := lightE) he.out (by simp [lightE]; omega); simp [lightB, hq]; done)); done)
        | (simp -implicitDefEqProofs only [SD, SF, SL, e_nf, reduceCtorEq, implies_true, ↓reduceIte, Nat.reduceEqDiff, Nat.reduceAdd, Nat.reduceMul, Nat.reduceSub, Nat.reduceLeDiff, Nat.reduceLT, Int.reduceLT, Int.reduceLE, Int.reduceEq, Int.reduceToNat, Int.reduceAdd, Int.reduceSub, Int.reduceNeg, Int.reduceBEq, Int.reduceBNe, Nat.reduceBEq, Int.cast_ofNat_Int, decide_true, decide_false, ne_eq, eq_self_iff_true, beq_eq_false_iff_ne, bne_iff_ne, List.replicate, *]))))
      all_goals ((simp only [lightB, hI, Bool.and_true]; simp; omega))

    | cons x rest =>
      have hlt := cut_lt he
      have hx := cutD encEv he
      simp only [encEv] at hx
      simp -implicitDefEqProofs only [SD, SF, SL, e_nf, reduceCtorEq, implies_true, ↓reduceIte, Nat.reduceEqDiff, Nat.reduceAdd, Nat.reduceMul, Nat.reduceSub, Nat.reduceLeDiff, Nat.reduceLT, Int.reduceLT, Int.reduceLE, Int.reduceEq, Int.reduceToNat, Int.reduceAdd, Int.reduceSub, Int.reduceNeg, Int.reduceBEq, Int.reduceBNe, Nat.reduceBEq, Int.cast_ofNat_Int, decide_true, decide_false, ne_eq, eq_self_iff_true, beq_eq_false_iff_ne, bne_iff_ne, List.replicate, hlt]
      intro hl
      have hw := wrap_len (n := pre.length) (m := (es).length) (cut_lt' he) (by simpa using hl)
      replace he := Hd.mk he
      iterate 60 (all_goals (try (first
        | ((with_reducible refine back_in rest.length [2, 4, 8, 9, 10, 11, 12, 13, 14, 15, 16, 17, 18, 19, 20, 21, 22, 23, 24, 25, 26, 27, 28, 29, 30, 31, 32, 33, 34, 35, 36, 37, 38, 39, 40, 41, 42, 43, 44, 45, 46, 47, 48, 49, 50, 51, 52, 53, 54, 55, 56, 57, 58, 59, 60, 61, 62, 63, 64, 65, 66, 67, 68, 69, 70, 71, 72, 73, 74, 75, 76, 77, 78, 79, 80, 81, 82, 83, 84, 85, 86, 87, 88, 89, 90, 91, 92, 93] [4] (pre ++ [x], rest, a) ?_ ⟨?_, ?_, ?_⟩ ?_)
           · simp
           · exact cut_snoc he.out
           · rfl
           · first | rfl | exact all_snoc hI (by simp [lightE]; omega)
           · first | (simp -implicitDefEqProofs only [SD, SF, SL, e_nf, reduceCtorEq, implies_true, ↓reduceIte, Nat.reduceEqDiff, Nat.reduceAdd, Nat.reduceMul, Nat.reduceSub, Nat.reduceLeDiff, Nat.reduceLT, Int.reduceLT, Int.reduceLE, Int.reduceEq, Int.reduceToNat, Int.reduceAdd, Int.reduceSub, Int.reduceNeg, Int.reduceBEq, Int.reduceBNe, Nat.reduceBEq, Int.cast_ofNat_Int, decide_true, decide_false, ne_eq, eq_self_iff_true, beq_eq_false_iff_ne, bne_iff_ne, List.replicate] <;> simp <;> done) | (simp -implicitDefEqProofs only [SD, SF, SL, e_nf, reduceCtorEq, implies_true, ↓reduceIte, Nat.reduceEqDiff, Nat.reduceAdd, Nat.reduceMul, Nat.reduceSub, Nat.reduceLeDiff, Nat.reduceLT, Int.reduceLT, Int.reduceLE, Int.reduceEq, Int.reduceToNat, Int.reduceAdd, Int.reduceSub, Int.reduceNeg, Int.reduceBEq, Int.reduceBNe, Nat.reduceBEq, Int.cast_ofNat_Int, decide_true, decide_false, ne_eq, eq_self_iff_true, beq_eq_false_iff_ne, bne_iff_ne, List.replicate, *] <;> simp_all <;> done))
        | (with_reducible refine ite_in (fun _ => ?_) (fun _ => ?_))
        | (with_reducible refine ⟨fun _ => ?_, fun _ => ?_⟩)
        | (with_reducible refine And.intro ?_ ?_)
        | (with_reducible intro _)
        | (with_reducible exact is_in _)
        | ((with_reducible refine eq_in ?_); ((have hq := all_cut (p := lightE) he.out (by simp [lightE]; omega); simp [lightB, hq]; done)); done)
        | (simp -implicitDefEqProofs only [SD, SF, SL, e_nf, reduceCtorEq, implies_true, ↓reduceIte, Nat.reduceEqDiff, Nat.reduceAdd, Nat.reduceMul, Nat.reduceSub, Nat.reduceLeDiff, Nat.reduceLT, Int.reduceLT, Int.reduceLE, Int.reduceEq, Int.reduceToNat, Int.reduceAdd, Int.reduceSub, Int.reduceNeg, Int.reduceBEq, Int.reduceBNe, Nat.reduceBEq, Int.cast_ofNat_Int, decide_true, decide_false, ne_eq, eq_self_iff_true, beq_eq_false_iff_ne, bne_iff_ne, List.replicate, *]))))

end Go.Proofs.Ytamcbdflmephdaa.E
