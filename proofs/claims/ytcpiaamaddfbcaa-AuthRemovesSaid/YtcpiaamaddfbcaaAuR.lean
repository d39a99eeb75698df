/-
  AuR: walks of functions of the program at data level.
-/
import Derived.Test.YtcpiaamaddfbcaaProg
import Derived.Test.YtcpiaamaddfbcaaEngZ
import Derived.Test.YtcpiaamaddfbcaaAuM
import Derived.KernelRfl
set_option linter.unusedVariables false
set_option linter.unusedSimpArgs false
namespace Go.Proofs.Ytcpiaamaddfbcaa.E
open Go
set_option maxHeartbeats 4000000
set_option maxRecDepth 100000
set_option linter.unusedSimpArgs false
set_option linter.unusedVariables false
attribute [local congr] c_wp c_ops c_op c_opS c_run c_runS c_dt c_seq c_blk c_loop c_S c_put c_bind c_mv c_pick c_nt c_ng c_bin c_binI c_binS c_beq c_B c_eqa c_hd c_cells c_blkK c_box c_vec c_take c_ld c_ldF c_cellsK c_st c_fld c_fldv c_ix c_ixp c_ixv c_ixs c_sub c_subs c_len c_lens c_src c_dst c_ow c_app c_ext c_mm c_conv c_str c_isn c_fill c_rows c_boxo c_frz c_frzO c_frzA c_frzV c_spec c_specO c_opsP c_opP c_runP c_specP c_Z c_qretP c_fz c_fn c_gv c_cond c_res1 c_resL c_ret c_qret c_ite c_unr c_nx c_bk c_cut c_is
attribute [local irreducible] dwp

def briefB (e : Ev) : Bool := decide (e.sender.length ≤ 100 ∧ e.key.length ≤ 100 ∧ e.room.length ≤ 100 ∧ e.prev.length ≤ 60 ∧ e.auth.length ≤ 60 ∧ e.via.length ≤ 100 ∧ e.txt.length ≤ 500 ∧ e.allow.length ≤ 110 ∧ e.deny.length ≤ 110 ∧ e.lv.users.length ≤ 110 ∧ e.lv.kinds.length ≤ 20)
def fewB (es : List Ev) : Bool := decide (es.length ≤ 40) && es.all briefB
def jEv (u : List UInt8) : Ev := { zeroEv with kind := 2, isState := true, room := [33, 114, 58, 115], sender := u, key := u, prev := [9], n := 3 }
def clrEv (e : Ev) : Ev := { e with txt := [], n := 0, target := 0, thread := false, via := [], allow := [], deny := [], lv := ⟨[], [], 0, 0, 0, 0, 0, 0, 0⟩ }
def stripEv (e : Ev) : Ev :=
  if e.kind = 1 then e else
  if e.kind = 2 then { clrEv e with n := e.n, via := e.via } else
  if e.kind = 3 then { clrEv e with lv := e.lv } else
  if e.kind = 4 then { clrEv e with n := e.n, allow := e.allow } else
  if e.kind = 5 then { clrEv e with n := e.n } else
  if e.kind = 6 then { clrEv e with allow := e.allow, deny := e.deny } else
  if e.kind = 14 then { clrEv e with target := e.target } else clrEv e
def encC (e : Ev) : List DV := [.str e.txt, .int .i64 e.n, .int .i64 e.target, .bool e.thread, .str e.via, .sl 1 (e.allow.map encS), .sl 1 (e.deny.map encS), .sl 2 (e.lv.users.map encLU), .sl 2 (e.lv.kinds.map encLK), .int .i64 e.lv.a2, .int .i64 e.lv.a3, .int .i64 e.lv.a4, .int .i64 e.lv.a5, .int .i64 e.lv.a6, .int .i64 e.lv.a7, .int .i64 e.lv.a8]
theorem st_ident (e : Ev) : (stripEv e).ident = e.ident := by unfold stripEv; repeat (first | rfl | split)
theorem st_room (e : Ev) : (stripEv e).room = e.room := by unfold stripEv; repeat (first | rfl | split)
theorem st_sender (e : Ev) : (stripEv e).sender = e.sender := by unfold stripEv; repeat (first | rfl | split)
theorem st_kind (e : Ev) : (stripEv e).kind = e.kind := by unfold stripEv; repeat (first | rfl | split)
theorem st_isState (e : Ev) : (stripEv e).isState = e.isState := by unfold stripEv; repeat (first | rfl | split)
theorem st_key (e : Ev) : (stripEv e).key = e.key := by unfold stripEv; repeat (first | rfl | split)
theorem st_time (e : Ev) : (stripEv e).time = e.time := by unfold stripEv; repeat (first | rfl | split)
theorem st_depth (e : Ev) : (stripEv e).depth = e.depth := by unfold stripEv; repeat (first | rfl | split)
theorem st_prev (e : Ev) : (stripEv e).prev = e.prev := by unfold stripEv; repeat (first | rfl | split)
theorem st_auth (e : Ev) : (stripEv e).auth = e.auth := by unfold stripEv; repeat (first | rfl | split)
theorem st_hash (e : Ev) : (stripEv e).hash = e.hash := by unfold stripEv; repeat (first | rfl | split)
theorem st_sigS (e : Ev) : (stripEv e).sigS = e.sigS := by unfold stripEv; repeat (first | rfl | split)
theorem st_sigN (e : Ev) : (stripEv e).sigN = e.sigN := by unfold stripEv; repeat (first | rfl | split)
def ac10 : AC := (.seq (.ops [⟨(some 1), none, (.box (.t 0))⟩, ⟨(some 2), none, (.mv (.c (.bool false)))⟩]) (.seq (.ops [⟨(some 3), none, (.fld 2 (.t 1))⟩, ⟨(some 4), none, (.ld false 1 (.t 3))⟩, ⟨(some 5), none, (.lens (.t 4))⟩, ⟨(some 6), none, (.bin .leq (.t 5) (.c (.int .i64 100)))⟩, ⟨(some 7), none, (.mv (.t 6))⟩, ⟨(some 8), (some (7, true)), (.fld 5 (.t 1))⟩, ⟨(some 9), (some (7, true)), (.ld false 1 (.t 8))⟩, ⟨(some 10), (some (7, true)), (.lens (.t 9))⟩, ⟨(some 11), (some (7, true)), (.bin .leq (.t 10) (.c (.int .i64 100)))⟩, ⟨(some 12), none, (.pick (.t 7) (.t 11) (.c (.bool false)))⟩, ⟨(some 13), none, (.mv (.t 12))⟩, ⟨(some 14), (some (13, true)), (.fld 1 (.t 1))⟩, ⟨(some 15), (some (13, true)), (.ld false 1 (.t 14))⟩, ⟨(some 16), (some (13, true)), (.lens (.t 15))⟩, ⟨(some 17), (some (13, true)), (.bin .leq (.t 16) (.c (.int .i64 100)))⟩, ⟨(some 18), none, (.pick (.t 13) (.t 17) (.c (.bool false)))⟩, ⟨(some 19), none, (.mv (.t 18))⟩, ⟨(some 20), (some (19, true)), (.fld 8 (.t 1))⟩, ⟨(some 21), (some (19, true)), (.ld false 1 (.t 20))⟩, ⟨(some 22), (some (19, true)), (.len (.t 21))⟩, ⟨(some 23), (some (19, true)), (.bin .leq (.t 22) (.c (.int .i64 60)))⟩, ⟨(some 24), none, (.pick (.t 19) (.t 23) (.c (.bool false)))⟩, ⟨(some 25), none, (.mv (.t 24))⟩, ⟨(some 26), (some (25, true)), (.fld 9 (.t 1))⟩, ⟨(some 27), (some (25, true)), (.ld false 1 (.t 26))⟩, ⟨(some 28), (some (25, true)), (.len (.t 27))⟩, ⟨(some 29), (some (25, true)), (.bin .leq (.t 28) (.c (.int .i64 60)))⟩, ⟨(some 30), none, (.pick (.t 25) (.t 29) (.c (.bool false)))⟩, ⟨(some 31), none, (.mv (.t 30))⟩, ⟨(some 32), (some (31, true)), (.fld 10 (.t 1))⟩, ⟨(some 33), (some (31, true)), (.fld 4 (.t 32))⟩, ⟨(some 34), (some (31, true)), (.ld false 1 (.t 33))⟩, ⟨(some 35), (some (31, true)), (.lens (.t 34))⟩, ⟨(some 36), (some (31, true)), (.bin .leq (.t 35) (.c (.int .i64 100)))⟩, ⟨(some 37), none, (.pick (.t 31) (.t 36) (.c (.bool false)))⟩, ⟨(some 38), none, (.mv (.t 37))⟩, ⟨(some 39), (some (38, true)), (.fld 10 (.t 1))⟩, ⟨(some 40), (some (38, true)), (.fld 0 (.t 39))⟩, ⟨(some 41), (some (38, true)), (.ld false 1 (.t 40))⟩, ⟨(some 42), (some (38, true)), (.lens (.t 41))⟩, ⟨(some 43), (some (38, true)), (.bin .leq (.t 42) (.c (.int .i64 500)))⟩, ⟨(some 44), none, (.pick (.t 38) (.t 43) (.c (.bool false)))⟩, ⟨(some 45), none, (.mv (.t 44))⟩, ⟨(some 46), (some (45, true)), (.fld 10 (.t 1))⟩, ⟨(some 47), (some (45, true)), (.fld 5 (.t 46))⟩, ⟨(some 48), (some (45, true)), (.ld false 1 (.t 47))⟩, ⟨(some 49), (some (45, true)), (.len (.t 48))⟩, ⟨(some 50), (some (45, true)), (.bin .leq (.t 49) (.c (.int .i64 110)))⟩, ⟨(some 51), none, (.pick (.t 45) (.t 50) (.c (.bool false)))⟩, ⟨(some 52), none, (.mv (.t 51))⟩, ⟨(some 53), (some (52, true)), (.fld 10 (.t 1))⟩, ⟨(some 54), (some (52, true)), (.fld 6 (.t 53))⟩, ⟨(some 55), (some (52, true)), (.ld false 1 (.t 54))⟩, ⟨(some 56), (some (52, true)), (.len (.t 55))⟩, ⟨(some 57), (some (52, true)), (.bin .leq (.t 56) (.c (.int .i64 110)))⟩, ⟨(some 58), none, (.pick (.t 52) (.t 57) (.c (.bool false)))⟩, ⟨(some 59), none, (.mv (.t 58))⟩, ⟨(some 60), (some (59, true)), (.fld 10 (.t 1))⟩, ⟨(some 61), (some (59, true)), (.fld 7 (.t 60))⟩, ⟨(some 62), (some (59, true)), (.fld 0 (.t 61))⟩, ⟨(some 63), (some (59, true)), (.ld false 1 (.t 62))⟩, ⟨(some 64), (some (59, true)), (.len (.t 63))⟩, ⟨(some 65), (some (59, true)), (.bin .leq (.t 64) (.c (.int .i64 110)))⟩, ⟨(some 66), none, (.pick (.t 59) (.t 65) (.c (.bool false)))⟩, ⟨(some 67), none, (.mv (.t 66))⟩, ⟨(some 68), (some (67, true)), (.fld 10 (.t 1))⟩, ⟨(some 69), (some (67, true)), (.fld 7 (.t 68))⟩, ⟨(some 70), (some (67, true)), (.fld 1 (.t 69))⟩, ⟨(some 71), (some (67, true)), (.ld false 1 (.t 70))⟩, ⟨(some 72), (some (67, true)), (.len (.t 71))⟩, ⟨(some 73), (some (67, true)), (.bin .leq (.t 72) (.c (.int .i64 20)))⟩, ⟨(some 74), none, (.pick (.t 67) (.t 73) (.c (.bool false)))⟩, ⟨(some 2), none, (.mv (.t 74))⟩]) .ret))
theorem tr10 : Try.f10.body.bind (trCode Try.prog) = some (strip ac10) := by kernel_rfl
theorem spec10 (e : Ev) : Spec Try.prog 10 [.fz (.agg (encEv e))] (.fz (.bool (briefB e))) := by
  refine spec_at (n := 74) (ars := [(.t 2)]) (ac := ac10) Try.func10 (by kernel_rfl) (by kernel_rfl) tr10 (by kernel_rfl) ?_
  unfold ac10
  iterate 80 (all_goals (try (first
    | (with_reducible refine ite_in (fun _ => ?_) (fun _ => ?_))
    | (with_reducible refine ⟨fun _ => ?_, fun _ => ?_⟩)
    | (with_reducible refine And.intro ?_ ?_)
    | (with_reducible intro _)
    | (with_reducible exact is_in _)
    | ((with_reducible refine eq_in ?_); ((simp only [briefB]; first | (symm; rw [decide_eq_true_eq]; omega) | (symm; rw [decide_eq_false_iff_not]; omega) | (rw [decide_eq_decide]; omega) | (simp; omega))); done)
    | (simp -implicitDefEqProofs only [SD, SF, SL, e_nf, reduceCtorEq, implies_true, ↓reduceIte, Nat.reduceEqDiff, Nat.reduceAdd, Nat.reduceMul, Nat.reduceSub, Nat.reduceLeDiff, Nat.reduceLT, Int.reduceLT, Int.reduceLE, Int.reduceEq, Int.reduceToNat, Int.reduceAdd, Int.reduceSub, Int.reduceNeg, Int.reduceBEq, Int.reduceBNe, Nat.reduceBEq, Int.cast_ofNat_Int, decide_true, decide_false, ne_eq, eq_self_iff_true, beq_eq_false_iff_ne, bne_iff_ne, List.replicate, encEv, *]))))
def ac11 : AC := (.seq (.ops [⟨(some 2), none, (.mv (.c (.bool false)))⟩]) (.seq (.seq (.ops [⟨(some 4), none, (.mv (.t 0))⟩, ⟨(some 5), none, (.len (.t 4))⟩, ⟨(some 6), none, (.bin .gtr (.t 5) (.c (.int .i64 40)))⟩]) (.cond (.t 6) (.seq (.ops [⟨(some 2), none, (.mv (.c (.bool false)))⟩]) .ret) .skip)) (.seq (.seq (.ops [⟨(some 3), none, (.mv (.c (.int .i64 0)))⟩]) (.block 0 (.loop (.seq (.seq (.ops [⟨(some 7), none, (.mv (.t 3))⟩, ⟨(some 8), none, (.mv (.t 0))⟩, ⟨(some 9), none, (.len (.t 8))⟩, ⟨(some 10), none, (.bin .lss (.t 7) (.t 9))⟩]) (.cond (.t 10) .skip (.exit 0))) (.seq (.block 1 (.seq (.ops [⟨(some 13), none, (.mv (.t 0))⟩, ⟨(some 14), none, (.mv (.t 3))⟩, ⟨(some 15), none, (.ix 29 (.t 13) (.t 14))⟩, ⟨(some 16), none, (.ld true 29 (.t 15))⟩, ⟨(some 17), none, (.call false 10 [(.t 16)])⟩, ⟨(some 18), none, (.nt (.t 17))⟩]) (.cond (.t 18) (.seq (.ops [⟨(some 2), none, (.mv (.c (.bool false)))⟩]) .ret) .skip))) (.ops [⟨(some 11), none, (.mv (.t 3))⟩, ⟨(some 12), none, (.bin .add (.t 11) (.c (.int .i64 1)))⟩, ⟨(some 3), none, (.mv (.t 12))⟩])))))) (.seq (.ops [⟨(some 2), none, (.mv (.c (.bool true)))⟩]) .ret))))
theorem tr11 : Try.f11.body.bind (trCode Try.prog) = some (strip ac11) := by kernel_rfl
theorem spec11 (es : List Ev) : Spec Try.prog 11 [.fz (.sl 29 (es.map encEv))] (.fz (.bool (fewB es))) := by
  refine spec_at (n := 18) (ars := [(.t 2)]) (ac := ac11) Try.func11 (by kernel_rfl) (by kernel_rfl) tr11 (by kernel_rfl) ?_
  unfold ac11
  by_cases h40 : es.length ≤ 40
  · have hf : fewB es = es.all briefB := by simp [fewB, h40]
    have h41 : ¬ (40 : Int) < es.length := by omega
    iterate 30 (all_goals (try (first
      | (with_reducible refine ite_in (fun _ => ?_) (fun _ => ?_))
      | (with_reducible refine ⟨fun _ => ?_, fun _ => ?_⟩)
      | (with_reducible refine And.intro ?_ ?_)
      | (with_reducible intro _)
      | (with_reducible exact is_in _)
      | ((with_reducible refine eq_in ?_); (grind [fewB]); done)
      | (simp -implicitDefEqProofs only [SD, SF, SL, e_nf, reduceCtorEq, implies_true, ↓reduceIte, Nat.reduceEqDiff, Nat.reduceAdd, Nat.reduceMul, Nat.reduceSub, Nat.reduceLeDiff, Nat.reduceLT, Int.reduceLT, Int.reduceLE, Int.reduceEq, Int.reduceToNat, Int.reduceAdd, Int.reduceSub, Int.reduceNeg, Int.reduceBEq, Int.reduceBNe, Nat.reduceBEq, Int.cast_ofNat_Int, decide_true, decide_false, ne_eq, eq_self_iff_true, beq_eq_false_iff_ne, bne_iff_ne, List.replicate, *]))))
    refine loop_q (X := List Ev × List Ev × Unit) (fun n x => es = x.1 ++ x.2.1 ∧ n = x.2.1.length ∧ (x.1.all briefB = true)) (fun x => [(3, .int .i64 x.1.length)]) (fun _ => []) [2, 7, 8, 9, 10, 11, 12, 13, 14, 15, 16, 17, 18] [] (es).length ([], es, ()) ⟨rfl, rfl, by first | rfl | exact all_snoc hI (by simp_all)⟩ ?_ ?_
    · simp -implicitDefEqProofs only [SD, SF, SL, e_nf, reduceCtorEq, implies_true, ↓reduceIte, Nat.reduceEqDiff, Nat.reduceAdd, Nat.reduceMul, Nat.reduceSub, Nat.reduceLeDiff, Nat.reduceLT, Int.reduceLT, Int.reduceLE, Int.reduceEq, Int.reduceToNat, Int.reduceAdd, Int.reduceSub, Int.reduceNeg, Int.reduceBEq, Int.reduceBNe, Nat.reduceBEq, Int.cast_ofNat_Int, decide_true, decide_false, ne_eq, eq_self_iff_true, beq_eq_false_iff_ne, bne_iff_ne, List.replicate] <;> simp
    · rintro n ⟨pre, rest, a⟩ ⟨he, rfl, hI⟩
      dsimp only at he hI
      cases rest with
      | nil =>
        obtain rfl : es = pre := by simpa using he
        clear he
        have hlt : ¬ (((es).length : Int) < ((es).length : Int)) := Int.lt_irrefl _
        iterate 30 (all_goals (try (first
          | ((with_reducible refine of_kSpec ?_)
             refine call_sub (ds' := [.agg (encEv x)]) (spec10 x) rfl ?_ ?_
             · simp -implicitDefEqProofs only [SD, SF, SL, e_nf, reduceCtorEq, implies_true, ↓reduceIte, Nat.reduceEqDiff, Nat.reduceAdd, Nat.reduceMul, Nat.reduceSub, Nat.reduceLeDiff, Nat.reduceLT, Int.reduceLT, Int.reduceLE, Int.reduceEq, Int.reduceToNat, Int.reduceAdd, Int.reduceSub, Int.reduceNeg, Int.reduceBEq, Int.reduceBNe, Nat.reduceBEq, Int.cast_ofNat_Int, decide_true, decide_false, ne_eq, eq_self_iff_true, beq_eq_false_iff_ne, bne_iff_ne, List.replicate, encEv, *]
               done)
          | (with_reducible refine ite_in (fun _ => ?_) (fun _ => ?_))
          | (with_reducible refine ⟨fun _ => ?_, fun _ => ?_⟩)
          | (with_reducible refine And.intro ?_ ?_)
          | (with_reducible intro _)
          | (with_reducible exact is_in _)
          | ((with_reducible refine eq_in ?_); (first | (rw [hf]; exact hI.symm) | (rw [hf]; exact (all_cut he.out (by assumption)).symm) | exact hI.symm | exact (all_cut he.out (by assumption)).symm); done)
          | (simp -implicitDefEqProofs only [SD, SF, SL, e_nf, reduceCtorEq, implies_true, ↓reduceIte, Nat.reduceEqDiff, Nat.reduceAdd, Nat.reduceMul, Nat.reduceSub, Nat.reduceLeDiff, Nat.reduceLT, Int.reduceLT, Int.reduceLE, Int.reduceEq, Int.reduceToNat, Int.reduceAdd, Int.reduceSub, Int.reduceNeg, Int.reduceBEq, Int.reduceBNe, Nat.reduceBEq, Int.cast_ofNat_Int, decide_true, decide_false, ne_eq, eq_self_iff_true, beq_eq_false_iff_ne, bne_iff_ne, List.replicate, *]))))

      | cons x rest =>
        have hlt := cut_lt he
        have hx := cutD encEv he
        simp only [encEv] at hx
        simp -implicitDefEqProofs only [SD, SF, SL, e_nf, reduceCtorEq, implies_true, ↓reduceIte, Nat.reduceEqDiff, Nat.reduceAdd, Nat.reduceMul, Nat.reduceSub, Nat.reduceLeDiff, Nat.reduceLT, Int.reduceLT, Int.reduceLE, Int.reduceEq, Int.reduceToNat, Int.reduceAdd, Int.reduceSub, Int.reduceNeg, Int.reduceBEq, Int.reduceBNe, Nat.reduceBEq, Int.cast_ofNat_Int, decide_true, decide_false, ne_eq, eq_self_iff_true, beq_eq_false_iff_ne, bne_iff_ne, List.replicate, hlt]
        intro hl
        have hw := wrap_len (n := pre.length) (m := (es).length) (cut_lt' he) (by simpa using hl)
        replace he := Hd.mk he
        iterate 30 (all_goals (try (first
          | ((with_reducible refine back_in rest.length [2, 7, 8, 9, 10, 11, 12, 13, 14, 15, 16, 17, 18] [] (pre ++ [x], rest, a) ?_ ⟨?_, ?_, ?_⟩ ?_)
             · simp
             · exact cut_snoc he.out
             · rfl
             · first | rfl | exact all_snoc hI (by simp_all)
             · first | (simp -implicitDefEqProofs only [SD, SF, SL, e_nf, reduceCtorEq, implies_true, ↓reduceIte, Nat.reduceEqDiff, Nat.reduceAdd, Nat.reduceMul, Nat.reduceSub, Nat.reduceLeDiff, Nat.reduceLT, Int.reduceLT, Int.reduceLE, Int.reduceEq, Int.reduceToNat, Int.reduceAdd, Int.reduceSub, Int.reduceNeg, Int.reduceBEq, Int.reduceBNe, Nat.reduceBEq, Int.cast_ofNat_Int, decide_true, decide_false, ne_eq, eq_self_iff_true, beq_eq_false_iff_ne, bne_iff_ne, List.replicate] <;> simp <;> done) | (simp -implicitDefEqProofs only [SD, SF, SL, e_nf, reduceCtorEq, implies_true, ↓reduceIte, Nat.reduceEqDiff, Nat.reduceAdd, Nat.reduceMul, Nat.reduceSub, Nat.reduceLeDiff, Nat.reduceLT, Int.reduceLT, Int.reduceLE, Int.reduceEq, Int.reduceToNat, Int.reduceAdd, Int.reduceSub, Int.reduceNeg, Int.reduceBEq, Int.reduceBNe, Nat.reduceBEq, Int.cast_ofNat_Int, decide_true, decide_false, ne_eq, eq_self_iff_true, beq_eq_false_iff_ne, bne_iff_ne, List.replicate, *] <;> simp_all <;> done))
          | ((with_reducible refine of_kSpec ?_)
             refine call_sub (ds' := [.agg (encEv x)]) (spec10 x) rfl ?_ ?_
             · simp -implicitDefEqProofs only [SD, SF, SL, e_nf, reduceCtorEq, implies_true, ↓reduceIte, Nat.reduceEqDiff, Nat.reduceAdd, Nat.reduceMul, Nat.reduceSub, Nat.reduceLeDiff, Nat.reduceLT, Int.reduceLT, Int.reduceLE, Int.reduceEq, Int.reduceToNat, Int.reduceAdd, Int.reduceSub, Int.reduceNeg, Int.reduceBEq, Int.reduceBNe, Nat.reduceBEq, Int.cast_ofNat_Int, decide_true, decide_false, ne_eq, eq_self_iff_true, beq_eq_false_iff_ne, bne_iff_ne, List.replicate, encEv, *]
               done)
          | (with_reducible refine ite_in (fun _ => ?_) (fun _ => ?_))
          | (with_reducible refine ⟨fun _ => ?_, fun _ => ?_⟩)
          | (with_reducible refine And.intro ?_ ?_)
          | (with_reducible intro _)
          | (with_reducible exact is_in _)
          | ((with_reducible refine eq_in ?_); (first | (rw [hf]; exact hI.symm) | (rw [hf]; exact (all_cut he.out (by assumption)).symm) | exact hI.symm | exact (all_cut he.out (by assumption)).symm); done)
          | (simp -implicitDefEqProofs only [SD, SF, SL, e_nf, reduceCtorEq, implies_true, ↓reduceIte, Nat.reduceEqDiff, Nat.reduceAdd, Nat.reduceMul, Nat.reduceSub, Nat.reduceLeDiff, Nat.reduceLT, Int.reduceLT, Int.reduceLE, Int.reduceEq, Int.reduceToNat, Int.reduceAdd, Int.reduceSub, Int.reduceNeg, Int.reduceBEq, Int.reduceBNe, Nat.reduceBEq, Int.cast_ofNat_Int, decide_true, decide_false, ne_eq, eq_self_iff_true, beq_eq_false_iff_ne, bne_iff_ne, List.replicate, *]))))
  · have hf : fewB es = false := by simp [fewB, h40]
    have h41 : (40 : Int) < es.length := by omega
    iterate 30 (all_goals (try (first
      | (with_reducible refine ite_in (fun _ => ?_) (fun _ => ?_))
      | (with_reducible refine ⟨fun _ => ?_, fun _ => ?_⟩)
      | (with_reducible refine And.intro ?_ ?_)
      | (with_reducible intro _)
      | (with_reducible exact is_in _)
      | (simp -implicitDefEqProofs only [SD, SF, SL, e_nf, reduceCtorEq, implies_true, ↓reduceIte, Nat.reduceEqDiff, Nat.reduceAdd, Nat.reduceMul, Nat.reduceSub, Nat.reduceLeDiff, Nat.reduceLT, Int.reduceLT, Int.reduceLE, Int.reduceEq, Int.reduceToNat, Int.reduceAdd, Int.reduceSub, Int.reduceNeg, Int.reduceBEq, Int.reduceBNe, Nat.reduceBEq, Int.cast_ofNat_Int, decide_true, decide_false, ne_eq, eq_self_iff_true, beq_eq_false_iff_ne, bne_iff_ne, List.replicate, *]))))

def ac25 : AC := (.seq (.ops [⟨(some 2), none, (.alloc [(.int .i64 0), (.str []), (.str []), (.int .i64 0), (.bool false), (.str []), (.int .i64 0), (.int .i64 0), .e0, .e0, (.str []), (.int .i64 0), (.int .i64 0), (.bool false), (.str []), .e0, .e0, .e0, .e0, (.int .i64 0), (.int .i64 0), (.int .i64 0), (.int .i64 0), (.int .i64 0), (.int .i64 0), (.int .i64 0), (.int .i64 0), (.str []), (.int .i64 0)])⟩]) (.seq (.ops [⟨(some 3), none, (.mv (.t 0))⟩, ⟨(some 4), none, (.mv (.t 0))⟩, ⟨(some 5), none, (.buildSl 3 1 1 [(.int .i64 0)] [(0, (.c (.int .i64 9)))])⟩, ⟨(some 6), none, (.build [(.str []), (.int .i64 0), (.int .i64 0), (.bool false), (.str []), .e0, .e0, .e0, .e0, (.int .i64 0), (.int .i64 0), (.int .i64 0), (.int .i64 0), (.int .i64 0), (.int .i64 0), (.int .i64 0)] [(1, (1, (.c (.int .i64 3))))])⟩, ⟨(some 7), none, (.build [(.int .i64 0), (.str []), (.str []), (.int .i64 0), (.bool false), (.str []), (.int .i64 0), (.int .i64 0), .e0, .e0, (.str []), (.int .i64 0), (.int .i64 0), (.bool false), (.str []), .e0, .e0, .e0, .e0, (.int .i64 0), (.int .i64 0), (.int .i64 0), (.int .i64 0), (.int .i64 0), (.int .i64 0), (.int .i64 0), (.int .i64 0), (.str []), (.int .i64 0)] [(3, (1, (.c (.int .i64 2)))), (4, (1, (.c (.bool true)))), (1, (1, (.c (.str [33, 114, 58, 115])))), (2, (1, (.t 3))), (5, (1, (.t 4))), (8, (1, (.t 5))), (10, (16, (.t 6)))])⟩, ⟨none, none, (.sto 29 (.t 2) (.t 7))⟩]) .ret))
theorem tr25 : Try.f25.body.bind (trCode Try.prog) = some (strip ac25) := by kernel_rfl
theorem spec25 (u : List UInt8) : Spec Try.prog 25 [.fz (.str u)] (.fz (.agg (encEv (jEv u)))) := by
  refine spec_at (n := 7) (ars := [(.c true 29 2)]) (ac := ac25) Try.func25 (by kernel_rfl) (by kernel_rfl) tr25 (by kernel_rfl) ?_
  unfold ac25
  iterate 30 (all_goals (try (first
    | (with_reducible refine ite_in (fun _ => ?_) (fun _ => ?_))
    | (with_reducible refine ⟨fun _ => ?_, fun _ => ?_⟩)
    | (with_reducible refine And.intro ?_ ?_)
    | (with_reducible intro _)
    | (with_reducible exact is_in _)
    | (simp -implicitDefEqProofs only [SD, SF, SL, e_nf, reduceCtorEq, implies_true, ↓reduceIte, Nat.reduceEqDiff, Nat.reduceAdd, Nat.reduceMul, Nat.reduceSub, Nat.reduceLeDiff, Nat.reduceLT, Int.reduceLT, Int.reduceLE, Int.reduceEq, Int.reduceToNat, Int.reduceAdd, Int.reduceSub, Int.reduceNeg, Int.reduceBEq, Int.reduceBNe, Nat.reduceBEq, Int.cast_ofNat_Int, decide_true, decide_false, ne_eq, eq_self_iff_true, beq_eq_false_iff_ne, bne_iff_ne, List.replicate, encEv, jEv, zeroEv, encN, *]))))
def ac49 : AC := (.seq (.ops [⟨(some 3), none, (.box (.t 1))⟩, ⟨(some 4), none, (.alloc [(.str []), (.int .i64 0), (.int .i64 0), (.bool false), (.str []), .e0, .e0, .e0, .e0, (.int .i64 0), (.int .i64 0), (.int .i64 0), (.int .i64 0), (.int .i64 0), (.int .i64 0), (.int .i64 0)])⟩]) (.seq (.seq (.ops [⟨(some 5), none, (.mv (.t 0))⟩]) (.block 0 (.seq (.ops [⟨(some 7), none, (.bin .eql (.t 5) (.c (.int .i64 1)))⟩, ⟨(some 6), none, (.mv (.t 7))⟩]) (.cond (.t 6) (.seq (.ops [⟨(some 8), none, (.ld true 16 (.t 3))⟩, ⟨none, none, (.sto 16 (.t 4) (.t 8))⟩]) .ret) (.seq (.ops [⟨(some 10), none, (.bin .eql (.t 5) (.c (.int .i64 2)))⟩, ⟨(some 9), none, (.mv (.t 10))⟩]) (.cond (.t 9) (.seq (.ops [⟨(some 11), none, (.fld 1 (.t 3))⟩, ⟨(some 12), none, (.ld false 1 (.t 11))⟩, ⟨(some 13), none, (.fld 4 (.t 3))⟩, ⟨(some 14), none, (.ld false 1 (.t 13))⟩, ⟨(some 15), none, (.build [(.str []), (.int .i64 0), (.int .i64 0), (.bool false), (.str []), .e0, .e0, .e0, .e0, (.int .i64 0), (.int .i64 0), (.int .i64 0), (.int .i64 0), (.int .i64 0), (.int .i64 0), (.int .i64 0)] [(1, (1, (.t 12))), (4, (1, (.t 14)))])⟩, ⟨none, none, (.sto 16 (.t 4) (.t 15))⟩]) .ret) (.seq (.ops [⟨(some 17), none, (.bin .eql (.t 5) (.c (.int .i64 3)))⟩, ⟨(some 16), none, (.mv (.t 17))⟩]) (.cond (.t 16) (.seq (.ops [⟨(some 18), none, (.fld 7 (.t 3))⟩, ⟨(some 19), none, (.ld true 9 (.t 18))⟩, ⟨(some 20), none, (.build [(.str []), (.int .i64 0), (.int .i64 0), (.bool false), (.str []), .e0, .e0, .e0, .e0, (.int .i64 0), (.int .i64 0), (.int .i64 0), (.int .i64 0), (.int .i64 0), (.int .i64 0), (.int .i64 0)] [(7, (9, (.t 19)))])⟩, ⟨none, none, (.sto 16 (.t 4) (.t 20))⟩]) .ret) (.seq (.ops [⟨(some 22), none, (.bin .eql (.t 5) (.c (.int .i64 4)))⟩, ⟨(some 21), none, (.mv (.t 22))⟩]) (.cond (.t 21) (.seq (.ops [⟨(some 23), none, (.fld 1 (.t 3))⟩, ⟨(some 24), none, (.ld false 1 (.t 23))⟩, ⟨(some 25), none, (.fld 5 (.t 3))⟩, ⟨(some 26), none, (.ld false 1 (.t 25))⟩, ⟨(some 27), none, (.build [(.str []), (.int .i64 0), (.int .i64 0), (.bool false), (.str []), .e0, .e0, .e0, .e0, (.int .i64 0), (.int .i64 0), (.int .i64 0), (.int .i64 0), (.int .i64 0), (.int .i64 0), (.int .i64 0)] [(1, (1, (.t 24))), (5, (1, (.t 26)))])⟩, ⟨none, none, (.sto 16 (.t 4) (.t 27))⟩]) .ret) (.seq (.ops [⟨(some 29), none, (.bin .eql (.t 5) (.c (.int .i64 5)))⟩, ⟨(some 28), none, (.mv (.t 29))⟩]) (.cond (.t 28) (.seq (.ops [⟨(some 30), none, (.fld 1 (.t 3))⟩, ⟨(some 31), none, (.ld false 1 (.t 30))⟩, ⟨(some 32), none, (.build [(.str []), (.int .i64 0), (.int .i64 0), (.bool false), (.str []), .e0, .e0, .e0, .e0, (.int .i64 0), (.int .i64 0), (.int .i64 0), (.int .i64 0), (.int .i64 0), (.int .i64 0), (.int .i64 0)] [(1, (1, (.t 31)))])⟩, ⟨none, none, (.sto 16 (.t 4) (.t 32))⟩]) .ret) (.seq (.ops [⟨(some 34), none, (.bin .eql (.t 5) (.c (.int .i64 6)))⟩, ⟨(some 33), none, (.mv (.t 34))⟩]) (.cond (.t 33) (.seq (.ops [⟨(some 35), none, (.fld 5 (.t 3))⟩, ⟨(some 36), none, (.ld false 1 (.t 35))⟩, ⟨(some 37), none, (.fld 6 (.t 3))⟩, ⟨(some 38), none, (.ld false 1 (.t 37))⟩, ⟨(some 39), none, (.build [(.str []), (.int .i64 0), (.int .i64 0), (.bool false), (.str []), .e0, .e0, .e0, .e0, (.int .i64 0), (.int .i64 0), (.int .i64 0), (.int .i64 0), (.int .i64 0), (.int .i64 0), (.int .i64 0)] [(5, (1, (.t 36))), (6, (1, (.t 38)))])⟩, ⟨none, none, (.sto 16 (.t 4) (.t 39))⟩]) .ret) (.seq (.ops [⟨(some 41), none, (.bin .eql (.t 5) (.c (.int .i64 14)))⟩, ⟨(some 40), none, (.mv (.t 41))⟩]) (.cond (.t 40) (.seq (.ops [⟨(some 42), none, (.fld 2 (.t 3))⟩, ⟨(some 43), none, (.ld false 1 (.t 42))⟩, ⟨(some 44), none, (.build [(.str []), (.int .i64 0), (.int .i64 0), (.bool false), (.str []), .e0, .e0, .e0, .e0, (.int .i64 0), (.int .i64 0), (.int .i64 0), (.int .i64 0), (.int .i64 0), (.int .i64 0), (.int .i64 0)] [(2, (1, (.t 43)))])⟩, ⟨none, none, (.sto 16 (.t 4) (.t 44))⟩]) .ret) .skip)))))))))))))))) (.seq (.ops [⟨(some 45), none, (.build [(.str []), (.int .i64 0), (.int .i64 0), (.bool false), (.str []), .e0, .e0, .e0, .e0, (.int .i64 0), (.int .i64 0), (.int .i64 0), (.int .i64 0), (.int .i64 0), (.int .i64 0), (.int .i64 0)] [])⟩, ⟨none, none, (.sto 16 (.t 4) (.t 45))⟩]) .ret)))
theorem tr49 : Try.f49.body.bind (trCode Try.prog) = some (strip ac49) := by kernel_rfl
theorem spec49 (e : Ev) : Spec Try.prog 49 [.fz (.int .i64 e.kind), .fz (.agg (encC e))] (.fz (.agg (encC (stripEv e)))) := by
  refine spec_at (n := 44) (ars := [(.c true 16 4)]) (ac := ac49) Try.func49 (by kernel_rfl) (by kernel_rfl) tr49 (by kernel_rfl) ?_
  unfold ac49
  iterate 30 (all_goals (try (first
    | (with_reducible refine ite_in (fun _ => ?_) (fun _ => ?_))
    | (with_reducible refine ⟨fun _ => ?_, fun _ => ?_⟩)
    | (with_reducible refine And.intro ?_ ?_)
    | (with_reducible intro _)
    | (with_reducible exact is_in _)
    | ((with_reducible refine eq_in ?_); (skip); done)
    | (simp -implicitDefEqProofs only [SD, SF, SL, e_nf, reduceCtorEq, implies_true, ↓reduceIte, Nat.reduceEqDiff, Nat.reduceAdd, Nat.reduceMul, Nat.reduceSub, Nat.reduceLeDiff, Nat.reduceLT, Int.reduceLT, Int.reduceLE, Int.reduceEq, Int.reduceToNat, Int.reduceAdd, Int.reduceSub, Int.reduceNeg, Int.reduceBEq, Int.reduceBNe, Nat.reduceBEq, Int.cast_ofNat_Int, decide_true, decide_false, ne_eq, eq_self_iff_true, beq_eq_false_iff_ne, bne_iff_ne, List.replicate, encC, *]))))
  all_goals (simp_all [stripEv, clrEv] <;> simp -implicitDefEqProofs only [SD, SF, SL, e_nf, reduceCtorEq, implies_true, ↓reduceIte, Nat.reduceEqDiff, Nat.reduceAdd, Nat.reduceMul, Nat.reduceSub, Nat.reduceLeDiff, Nat.reduceLT, Int.reduceLT, Int.reduceLE, Int.reduceEq, Int.reduceToNat, Int.reduceAdd, Int.reduceSub, Int.reduceNeg, Int.reduceBEq, Int.reduceBNe, Nat.reduceBEq, Int.cast_ofNat_Int, decide_true, decide_false, ne_eq, eq_self_iff_true, beq_eq_false_iff_ne, bne_iff_ne, List.replicate])
def ac24 : AC := (.seq (.ops [⟨(some 1), none, (.box (.t 0))⟩, ⟨(some 2), none, (.alloc [(.int .i64 0), (.str []), (.str []), (.int .i64 0), (.bool false), (.str []), (.int .i64 0), (.int .i64 0), .e0, .e0, (.str []), (.int .i64 0), (.int .i64 0), (.bool false), (.str []), .e0, .e0, .e0, .e0, (.int .i64 0), (.int .i64 0), (.int .i64 0), (.int .i64 0), (.int .i64 0), (.int .i64 0), (.int .i64 0), (.int .i64 0), (.str []), (.int .i64 0)])⟩]) (.seq (.ops [⟨(some 3), none, (.fld 3 (.t 1))⟩, ⟨(some 4), none, (.ld false 1 (.t 3))⟩, ⟨(some 5), none, (.fld 10 (.t 1))⟩, ⟨(some 6), none, (.ld true 16 (.t 5))⟩, ⟨(some 7), none, (.call false 49 [(.t 4), (.t 6)])⟩, ⟨(some 8), none, (.fld 10 (.t 1))⟩, ⟨none, none, (.sto 16 (.t 8) (.t 7))⟩]) (.seq (.ops [⟨(some 9), none, (.ld true 29 (.t 1))⟩, ⟨none, none, (.sto 29 (.t 2) (.t 9))⟩]) .ret)))
theorem tr24 : Try.f24.body.bind (trCode Try.prog) = some (strip ac24) := by kernel_rfl
theorem spec24 (e : Ev) : Spec Try.prog 24 [.fz (.agg (encEv e))] (.fz (.agg (encEv (stripEv e)))) := by
  refine spec_at (n := 9) (ars := [(.c true 29 2)]) (ac := ac24) Try.func24 (by kernel_rfl) (by kernel_rfl) tr24 (by kernel_rfl) ?_
  unfold ac24
  iterate 30 (all_goals (try (first
    | ((with_reducible refine of_kSpec ?_); refine call_fz (spec49 e) rfl ?_)
    | (with_reducible refine ite_in (fun _ => ?_) (fun _ => ?_))
    | (with_reducible refine ⟨fun _ => ?_, fun _ => ?_⟩)
    | (with_reducible refine And.intro ?_ ?_)
    | (with_reducible intro _)
    | (with_reducible exact is_in _)
    | (simp -implicitDefEqProofs only [SD, SF, SL, e_nf, reduceCtorEq, implies_true, ↓reduceIte, Nat.reduceEqDiff, Nat.reduceAdd, Nat.reduceMul, Nat.reduceSub, Nat.reduceLeDiff, Nat.reduceLT, Int.reduceLT, Int.reduceLE, Int.reduceEq, Int.reduceToNat, Int.reduceAdd, Int.reduceSub, Int.reduceNeg, Int.reduceBEq, Int.reduceBNe, Nat.reduceBEq, Int.cast_ofNat_Int, decide_true, decide_false, ne_eq, eq_self_iff_true, beq_eq_false_iff_ne, bne_iff_ne, List.replicate, encEv, encC, st_ident, st_room, st_sender, st_kind, st_isState, st_key, st_time, st_depth, st_prev, st_auth, st_hash, st_sigS, st_sigN, *]))))

end Go.Proofs.Ytcpiaamaddfbcaa.E
