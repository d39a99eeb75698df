/-
  RcC: walks of functions of the program at data level.
-/
import Derived.Test.YthackanfbemabaaProg
import Derived.Test.YthackanfbemabaaEngZ
import Derived.Test.YthackanfbemabaaRcA
import Derived.Test.YthackanfbemabaaRbG
import Derived.KernelRfl
set_option linter.unusedVariables false
set_option linter.unusedSimpArgs false
namespace Go.Proofs.Ythackanfbemabaa.E
open Go
set_option maxHeartbeats 4000000
set_option maxRecDepth 100000
set_option linter.unusedSimpArgs false
set_option linter.unusedVariables false
attribute [local congr] c_wp c_ops c_op c_opS c_run c_runS c_dt c_seq c_blk c_loop c_S c_put c_bind c_mv c_pick c_nt c_ng c_bin c_binI c_binS c_beq c_B c_eqa c_hd c_cells c_blkK c_box c_vec c_mp c_nck c_mks c_appn c_mkm c_mput c_mlk c_mrm c_take c_ld c_ldF c_cellsK c_st c_fld c_fldv c_ix c_ixp c_ixv c_ixs c_sub c_subs c_len c_lens c_src c_dst c_ow c_app c_ext c_mm c_conv c_str c_isn c_fill c_rows c_boxo c_frz c_frzO c_frzA c_frzV c_spec c_specO c_opsP c_opP c_runP c_specP c_Z c_qretP c_fz c_fn c_gv c_cond c_res1 c_resL c_ret c_qret c_ite c_unr c_nx c_bk c_cut c_is
attribute [local irreducible] dwp

theorem loop_r {P : Program} {Q : AE → DS → Prop} {X : Type} {c : AC} {E : List DV} {M : Mem} (R : Nat → X → Prop) (pe : X → List (Nat × DV)) (pm : X → List (Nat × Blk)) (ts0 ks ks0 : List Nat) (n0 : Nat) (x0 : X) (hR : R n0 x0)
    (h0 : forget ts0 ks0 ⟨E, M⟩ = ⟨pE (pe x0) (forgetE ts0 E), pM (pm x0) (msort (mdels ks M))⟩)
    (hr : ∀ n x, R n x → dwp P c ⟨pE (pe x) (forgetE ts0 E), pM (pm x) (msort (mdels ks M))⟩
      (kLoop (kBk R (fun x => ⟨pE (pe x) (forgetE ts0 E), pM (pm x) (msort (mdels ks M))⟩) n) Q)) : dwp P (.loop c) ⟨E, M⟩ Q := by
  unfold dwp
  refine ⟨fun n s => ∃ x, R n x ∧ s = ⟨pE (pe x) (forgetE ts0 E), pM (pm x) (msort (mdels ks M))⟩, n0, ts0, ks0, ⟨x0, hR, h0⟩, ?_⟩
  rintro n s ⟨x, hx, rfl⟩
  exact hr n x hx

def ac_pA0 : AC := (.ops [⟨(some 2), none, (.mv (.c (.bool false)))⟩])
theorem tr_pA0 : trCodeF Try.prog [] (pA0 (Try.f3.body.getD .skip)) = some (strip ac_pA0) := by kernel_rfl
theorem no_pA0 : noDp ac_pA0 = true := by kernel_rfl
theorem ca_pA0 : calmCode [] (pA0 (Try.f3.body.getD .skip)) = true := by kernel_rfl
def ac_pA1 : AC := (.seq (.ops [⟨(some 11), none, (.mv (.t 0))⟩, ⟨(some 12), none, (.len (.t 11))⟩, ⟨(some 13), none, (.bin .gtr (.t 12) (.c (.int .i64 40)))⟩]) (.cond (.t 13) (.seq (.ops [⟨(some 14), none, (.call false 14 [])⟩, ⟨(some 2), none, (.mv (.t 14))⟩]) .ret) .skip))
theorem tr_pA1 : trCodeF Try.prog [] (pA1 (Try.f3.body.getD .skip)) = some (strip ac_pA1) := by kernel_rfl
theorem no_pA1 : noDp ac_pA1 = true := by kernel_rfl
theorem ca_pA1 : calmCode [] (pA1 (Try.f3.body.getD .skip)) = true := by kernel_rfl
def ac_pA2 : AC := (.seq (.ops [⟨(some 3), none, (.mv (.c (.int .i64 0)))⟩]) (.block 0 (.loop (.seq (.seq (.ops [⟨(some 15), none, (.mv (.t 3))⟩, ⟨(some 16), none, (.mv (.t 0))⟩, ⟨(some 17), none, (.len (.t 16))⟩, ⟨(some 18), none, (.bin .lss (.t 15) (.t 17))⟩]) (.cond (.t 18) .skip (.exit 0))) (.seq (.block 1 (.seq (.ops [⟨(some 21), none, (.mv (.t 0))⟩, ⟨(some 22), none, (.mv (.t 3))⟩, ⟨(some 23), none, (.ix 29 (.t 21) (.t 22))⟩, ⟨(some 24), none, (.fld 10 (.t 23))⟩, ⟨(some 25), none, (.fld 5 (.t 24))⟩, ⟨(some 26), none, (.ld false 1 (.t 25))⟩, ⟨(some 27), none, (.len (.t 26))⟩, ⟨(some 28), none, (.bin .gtr (.t 27) (.c (.int .i64 110)))⟩]) (.cond (.t 28) (.seq (.ops [⟨(some 29), none, (.call false 14 [])⟩, ⟨(some 2), none, (.mv (.t 29))⟩]) .ret) .skip))) (.ops [⟨(some 19), none, (.mv (.t 3))⟩, ⟨(some 20), none, (.bin .add (.t 19) (.c (.int .i64 1)))⟩, ⟨(some 3), none, (.mv (.t 20))⟩]))))))
theorem tr_pA2 : trCodeF Try.prog [] (pA2 (Try.f3.body.getD .skip)) = some (strip ac_pA2) := by kernel_rfl
theorem no_pA2 : noDp ac_pA2 = true := by kernel_rfl
theorem ca_pA2 : calmCode [] (pA2 (Try.f3.body.getD .skip)) = true := by kernel_rfl
def ac_pC : AC := (.ops [⟨(some 36), none, (.mv (.t 0))⟩, ⟨(some 37), none, (.call false 16 [(.t 36)])⟩, ⟨(some 35), none, (.mv (.t 37))⟩, ⟨(some 38), none, (.ext (.t 35) 0)⟩, ⟨(some 39), none, (.ext (.t 35) 1)⟩, ⟨(some 6), none, (.mv (.t 38))⟩, ⟨(some 7), none, (.mv (.t 39))⟩])
theorem tr_pC : trCodeF Try.prog [] (pC (Try.f3.body.getD .skip)) = some (strip ac_pC) := by kernel_rfl
theorem no_pC : noDp ac_pC = true := by kernel_rfl
theorem ca_pC : calmCode [] (pC (Try.f3.body.getD .skip)) = true := by kernel_rfl
def ac_pD : AC := (.seq (.ops [⟨(some 40), none, (.mv (.t 4))⟩, ⟨(some 41), none, (.mv (.t 6))⟩, ⟨(some 42), none, (.bin .neq (.t 40) (.t 41))⟩, ⟨(some 43), none, (.mv (.t 42))⟩, ⟨(some 44), (some (43, false)), (.mv (.t 5))⟩, ⟨(some 45), (some (43, false)), (.mv (.t 7))⟩, ⟨(some 46), (some (43, false)), (.call false 17 [(.t 44), (.t 45)])⟩, ⟨(some 47), (some (43, false)), (.nt (.t 46))⟩, ⟨(some 48), none, (.pick (.t 43) (.c (.bool true)) (.t 47))⟩]) (.cond (.t 48) (.seq (.ops [⟨(some 2), none, (.mv (.c (.bool false)))⟩]) .ret) .skip))
theorem tr_pD : trCodeF Try.prog [] (pD (Try.f3.body.getD .skip)) = some (strip ac_pD) := by kernel_rfl
theorem no_pD : noDp ac_pD = true := by kernel_rfl
theorem ca_pD : calmCode [0, 4, 5, 6, 7] (pD (Try.f3.body.getD .skip)) = true := by kernel_rfl
def ac_pL : AC := (.seq (.ops [⟨(some 49), none, (.mv (.t 5))⟩, ⟨(some 50), none, (.len (.t 49))⟩, ⟨(some 51), none, (.mv (.c (.int .i64 0)))⟩]) (.block 2 (.loop (.seq (.ops [⟨(some 52), none, (.bin .lss (.t 51) (.t 50))⟩]) (.seq (.cond (.t 52) .skip (.exit 2)) (.seq (.block 3 (.seq (.ops [⟨(some 53), none, (.mv (.t 51))⟩, ⟨(some 8), none, (.mv (.t 53))⟩]) (.ops [⟨(some 54), none, (.mv (.t 5))⟩, ⟨(some 55), none, (.mv (.t 8))⟩, ⟨(some 56), none, (.ix 1 (.t 54) (.t 55))⟩, ⟨none, none, (.sto 1 (.t 56) (.c (.str [99, 104, 97, 110, 103, 101, 100])))⟩]))) (.ops [⟨(some 57), none, (.bin .add (.t 51) (.c (.int .i64 1)))⟩, ⟨(some 51), none, (.mv (.t 57))⟩])))))))
theorem tr_pL : trCodeF Try.prog [] (pL (Try.f3.body.getD .skip)) = some (strip ac_pL) := by kernel_rfl
theorem no_pL : noDp ac_pL = true := by kernel_rfl
theorem ca_pL : calmCode [] (pL (Try.f3.body.getD .skip)) = true := by kernel_rfl
def ac_pT : AC := (.seq (.ops [⟨(some 59), none, (.mv (.t 0))⟩, ⟨(some 60), none, (.call false 15 [(.t 59)])⟩, ⟨(some 58), none, (.mv (.t 60))⟩, ⟨(some 61), none, (.ext (.t 58) 0)⟩, ⟨(some 62), none, (.ext (.t 58) 1)⟩, ⟨(some 9), none, (.mv (.t 61))⟩, ⟨(some 10), none, (.mv (.t 62))⟩]) (.seq (.ops [⟨(some 63), none, (.mv (.t 9))⟩, ⟨(some 64), none, (.mv (.t 6))⟩, ⟨(some 65), none, (.bin .eql (.t 63) (.t 64))⟩, ⟨(some 66), none, (.mv (.t 65))⟩, ⟨(some 67), (some (66, true)), (.mv (.t 10))⟩, ⟨(some 68), (some (66, true)), (.mv (.t 7))⟩, ⟨(some 69), (some (66, true)), (.call false 17 [(.t 67), (.t 68)])⟩, ⟨(some 70), none, (.pick (.t 66) (.t 69) (.c (.bool false)))⟩, ⟨(some 71), none, (.mv (.t 70))⟩, ⟨(some 72), (some (71, true)), (.call false 14 [])⟩, ⟨(some 73), none, (.pick (.t 71) (.t 72) (.c (.bool false)))⟩, ⟨(some 2), none, (.mv (.t 73))⟩]) .ret))
theorem tr_pT : trCodeF Try.prog [] (pT (Try.f3.body.getD .skip)) = some (strip ac_pT) := by kernel_rfl
theorem no_pT : noDp ac_pT = true := by kernel_rfl
theorem ca_pT : calmCode [] (pT (Try.f3.body.getD .skip)) = true := by kernel_rfl

theorem body3 : Try.f3.body = some (.seq (pA0 (Try.f3.body.getD .skip)) (.seq (pA1 (Try.f3.body.getD .skip)) (.seq (pA2 (Try.f3.body.getD .skip)) (.seq (pR1 (Try.f3.body.getD .skip)) (.seq (pC (Try.f3.body.getD .skip)) (.seq (pD (Try.f3.body.getD .skip)) (.seq (pL (Try.f3.body.getD .skip)) (pT (Try.f3.body.getD .skip))))))))) := by kernel_rfl
/-- on, or out with what is returned -/
def QA (K : DS → Prop) (e : AE) (s : DS) : Prop := match e with
  | .normal => K s
  | .ret => kRet [(.t 2)] (.fz (.bool true)) s
  | _ => False
theorem QA_n (K : DS → Prop) (s : DS) : QA K .normal s = K s := rfl
theorem QA_r (K : DS → Prop) (s : DS) : QA K .ret s = kRet [(.t 2)] (.fz (.bool true)) s := rfl
def E0 (es : List Ev) : List DV := [.sl 29 (es.map encEv)] ++ List.replicate 73 .any
def E1 (es : List Ev) : List DV := [.sl 29 (es.map encEv), .any, .any, .any, .int .i64 (rulesL es).1, .ow 34] ++ List.replicate 68 .any
def E2 (es : List Ev) : List DV := [.sl 29 (es.map encEv), .any, .any, .any, .int .i64 (rulesL es).1, .ow 34, .int .i64 (rulesL es).1, .sl 1 ((rulesL es).2.map encS)] ++ List.replicate 66 .any
def E2f (es : List Ev) : List DV := [.sl 29 (es.map encEv), .any, .any, .any, .int .i64 (rulesL es).1, .sl 1 ((rulesL es).2.map encS), .int .i64 (rulesL es).1, .sl 1 ((rulesL es).2.map encS)] ++ List.replicate 66 .any
def E3 (es : List Ev) : List DV := [.sl 29 (es.map encEv), .any, .any, .any, .any, .any, .int .i64 (rulesL es).1, .sl 1 ((rulesL es).2.map encS)] ++ List.replicate 66 .any
def mV (es : List Ev) : Mem := [(34, .vec 9 1 ((rulesL es).2.map encS))]
def fewB (es : List Ev) : Bool := es.all fun e => decide (e.allow.length ≤ 110)
def K0 (es : List Ev) (s : DS) : Prop := s.env.length = 74 ∧ s.env[0]? = some (.sl 29 (es.map encEv))
def K1 (es : List Ev) (s : DS) : Prop := fewB es = true ∧ s.env.length = 74 ∧ s.env[0]? = some (.sl 29 (es.map encEv))
def K2 (es : List Ev) (s : DS) : Prop := s.env.length = 74 ∧ s.env[0]? = some (.sl 29 (es.map encEv)) ∧ s.env[4]? = some (.int .i64 (rulesL es).1) ∧ s.env[5]? = some (.ow 34) ∧ s.env[6]? = some (.int .i64 (rulesL es).1) ∧ s.env[7]? = some (.sl 1 ((rulesL es).2.map encS)) ∧ mget s.mem 34 = some (.vec 9 1 ((rulesL es).2.map encS))
def K3 (es : List Ev) (s : DS) : Prop := s.env.length = 74 ∧ s.env[0]? = some (.sl 29 (es.map encEv)) ∧ s.env[6]? = some (.int .i64 (rulesL es).1) ∧ s.env[7]? = some (.sl 1 ((rulesL es).2.map encS))
def KD (s : DS) : Prop := s.env.length = 74
theorem walkA0 (es : List Ev) : dwp Try.prog ac_pA0 ⟨E0 es, []⟩ (QA (K0 es)) := by
  unfold ac_pA0 E0
  iterate 30 (all_goals (try (first
    | (with_reducible refine ite_in (fun _ => ?_) (fun _ => ?_))
    | (with_reducible refine ⟨fun _ => ?_, fun _ => ?_⟩)
    | (with_reducible refine And.intro ?_ ?_)
    | (with_reducible intro _)
    | (with_reducible exact is_in _)
    | (simp -implicitDefEqProofs only [SD, SF, SL, e_nf, reduceCtorEq, implies_true, ↓reduceIte, Nat.reduceEqDiff, Nat.reduceAdd, Nat.reduceMul, Nat.reduceSub, Nat.reduceLeDiff, Nat.reduceLT, Int.reduceLT, Int.reduceLE, Int.reduceEq, Int.reduceToNat, Int.reduceAdd, Int.reduceSub, Int.reduceNeg, Int.reduceBEq, Int.reduceBNe, Nat.reduceBEq, Int.cast_ofNat_Int, decide_true, decide_false, ne_eq, eq_self_iff_true, beq_eq_false_iff_ne, bne_iff_ne, List.replicate, QA_n, K0, *]))))
  all_goals (rfl)
theorem walkA1 (es : List Ev) : dwp Try.prog ac_pA1 ⟨E0 es, []⟩ (QA (fun s => es.length ≤ 40 ∧ K0 es s)) := by
  unfold ac_pA1 E0
  iterate 30 (all_goals (try (first
    | ((with_reducible refine of_kSpec ?_); refine call_fz (spec14) rfl ?_)
    | (with_reducible refine ite_in (fun _ => ?_) (fun _ => ?_))
    | (with_reducible refine ⟨fun _ => ?_, fun _ => ?_⟩)
    | (with_reducible refine And.intro ?_ ?_)
    | (with_reducible intro _)
    | (with_reducible exact is_in _)
    | (simp -implicitDefEqProofs only [SD, SF, SL, e_nf, reduceCtorEq, implies_true, ↓reduceIte, Nat.reduceEqDiff, Nat.reduceAdd, Nat.reduceMul, Nat.reduceSub, Nat.reduceLeDiff, Nat.reduceLT, Int.reduceLT, Int.reduceLE, Int.reduceEq, Int.reduceToNat, Int.reduceAdd, Int.reduceSub, Int.reduceNeg, Int.reduceBEq, Int.reduceBNe, Nat.reduceBEq, Int.cast_ofNat_Int, decide_true, decide_false, ne_eq, eq_self_iff_true, beq_eq_false_iff_ne, bne_iff_ne, List.replicate, QA_n, QA_r, K0, *]))))
  all_goals (first | rfl | omega | (simp_all; done))
theorem walkA2 (es : List Ev) (hb : es.length ≤ 40) : dwp Try.prog ac_pA2 ⟨E0 es, []⟩ (QA (K1 es)) := by
  unfold ac_pA2 E0
  iterate 4 (all_goals (try (first
    | (with_reducible refine ite_in (fun _ => ?_) (fun _ => ?_))
    | (with_reducible refine ⟨fun _ => ?_, fun _ => ?_⟩)
    | (with_reducible refine And.intro ?_ ?_)
    | (with_reducible intro _)
    | (with_reducible exact is_in _)
    | (simp -implicitDefEqProofs only [SD, SF, SL, e_nf, reduceCtorEq, implies_true, ↓reduceIte, Nat.reduceEqDiff, Nat.reduceAdd, Nat.reduceMul, Nat.reduceSub, Nat.reduceLeDiff, Nat.reduceLT, Int.reduceLT, Int.reduceLE, Int.reduceEq, Int.reduceToNat, Int.reduceAdd, Int.reduceSub, Int.reduceNeg, Int.reduceBEq, Int.reduceBNe, Nat.reduceBEq, Int.cast_ofNat_Int, decide_true, decide_false, ne_eq, eq_self_iff_true, beq_eq_false_iff_ne, bne_iff_ne, List.replicate, QA_n, QA_r, *]))))
  refine loop_q (X := List Ev × List Ev × Unit) (fun n x => es = x.1 ++ x.2.1 ∧ n = x.2.1.length ∧ (fewB x.1 = true)) (fun x => [(3, .int .i64 x.1.length)]) (fun _ => []) [2, 15, 16, 17, 18, 19, 20, 21, 22, 23, 24, 25, 26, 27, 28, 29] []  (es).length ([], es, ()) ⟨rfl, rfl, by rfl⟩ ?_ ?_
  · simp -implicitDefEqProofs only [SD, SF, SL, e_nf, reduceCtorEq, implies_true, ↓reduceIte, Nat.reduceEqDiff, Nat.reduceAdd, Nat.reduceMul, Nat.reduceSub, Nat.reduceLeDiff, Nat.reduceLT, Int.reduceLT, Int.reduceLE, Int.reduceEq, Int.reduceToNat, Int.reduceAdd, Int.reduceSub, Int.reduceNeg, Int.reduceBEq, Int.reduceBNe, Nat.reduceBEq, Int.cast_ofNat_Int, decide_true, decide_false, ne_eq, eq_self_iff_true, beq_eq_false_iff_ne, bne_iff_ne, List.replicate, encEv, QA_n, QA_r, K1] <;> simp
  · rintro n ⟨pre, rest, a⟩ ⟨he, rfl, hI⟩
    dsimp only at he hI
    cases rest with
    | nil =>
      obtain rfl : es = pre := by simpa using he
      clear he
      have hlt : ¬ (((es).length : Int) < ((es).length : Int)) := Int.lt_irrefl _
      iterate 30 (all_goals (try (first
        | ((with_reducible refine of_kSpec ?_); refine call_fz (spec14) rfl ?_)
        | (with_reducible refine ite_in (fun _ => ?_) (fun _ => ?_))
        | (with_reducible refine ⟨fun _ => ?_, fun _ => ?_⟩)
        | (with_reducible refine And.intro ?_ ?_)
        | (with_reducible intro _)
        | (with_reducible exact is_in _)
        | (simp -implicitDefEqProofs only [SD, SF, SL, e_nf, reduceCtorEq, implies_true, ↓reduceIte, Nat.reduceEqDiff, Nat.reduceAdd, Nat.reduceMul, Nat.reduceSub, Nat.reduceLeDiff, Nat.reduceLT, Int.reduceLT, Int.reduceLE, Int.reduceEq, Int.reduceToNat, Int.reduceAdd, Int.reduceSub, Int.reduceNeg, Int.reduceBEq, Int.reduceBNe, Nat.reduceBEq, Int.cast_ofNat_Int, decide_true, decide_false, ne_eq, eq_self_iff_true, beq_eq_false_iff_ne, bne_iff_ne, List.replicate, encEv, QA_n, QA_r, K1, hI, *]))))
      all_goals (first | rfl | (simp_all; done) | trace_state)

    | cons x rest =>
      have hlt := cut_lt he
      have hx := cutD encEv he
      simp only [encEv] at hx
      simp -implicitDefEqProofs only [SD, SF, SL, e_nf, reduceCtorEq, implies_true, ↓reduceIte, Nat.reduceEqDiff, Nat.reduceAdd, Nat.reduceMul, Nat.reduceSub, Nat.reduceLeDiff, Nat.reduceLT, Int.reduceLT, Int.reduceLE, Int.reduceEq, Int.reduceToNat, Int.reduceAdd, Int.reduceSub, Int.reduceNeg, Int.reduceBEq, Int.reduceBNe, Nat.reduceBEq, Int.cast_ofNat_Int, decide_true, decide_false, ne_eq, eq_self_iff_true, beq_eq_false_iff_ne, bne_iff_ne, List.replicate, encEv, QA_n, QA_r, K1, hlt]
      intro hl
      have hw := wrap_len (n := pre.length) (m := (es).length) (cut_lt' he) (by simp only [maxLen]; omega)
      replace he := Hd.mk he
      by_cases h1 : x.allow.length ≤ 110
      all_goals (first | have h2 : ¬ (110 < (x.allow.length : Int)) := by omega | have h2 : 110 < (x.allow.length : Int) := by omega)
      all_goals (have hml : es.length ≤ maxLen := by simp only [maxLen]; omega)
      iterate 30 (all_goals (try (first
        | ((with_reducible refine back_in rest.length [2, 15, 16, 17, 18, 19, 20, 21, 22, 23, 24, 25, 26, 27, 28, 29] [] (pre ++ [x], rest, a) ?_ ⟨?_, ?_, ?_⟩ ?_)
           · simp
           · exact cut_snoc he.out
           · rfl
           · first | rfl | (simp only [fewB, List.all_append, List.all_cons, List.all_nil, Bool.and_true, Bool.and_eq_true, decide_eq_true_eq] at hI ⊢; exact ⟨hI, h1⟩)
           · first | (simp -implicitDefEqProofs only [SD, SF, SL, e_nf, reduceCtorEq, implies_true, ↓reduceIte, Nat.reduceEqDiff, Nat.reduceAdd, Nat.reduceMul, Nat.reduceSub, Nat.reduceLeDiff, Nat.reduceLT, Int.reduceLT, Int.reduceLE, Int.reduceEq, Int.reduceToNat, Int.reduceAdd, Int.reduceSub, Int.reduceNeg, Int.reduceBEq, Int.reduceBNe, Nat.reduceBEq, Int.cast_ofNat_Int, decide_true, decide_false, ne_eq, eq_self_iff_true, beq_eq_false_iff_ne, bne_iff_ne, List.replicate, encEv, QA_n, QA_r, K1] <;> simp <;> done) | (simp -implicitDefEqProofs only [SD, SF, SL, e_nf, reduceCtorEq, implies_true, ↓reduceIte, Nat.reduceEqDiff, Nat.reduceAdd, Nat.reduceMul, Nat.reduceSub, Nat.reduceLeDiff, Nat.reduceLT, Int.reduceLT, Int.reduceLE, Int.reduceEq, Int.reduceToNat, Int.reduceAdd, Int.reduceSub, Int.reduceNeg, Int.reduceBEq, Int.reduceBNe, Nat.reduceBEq, Int.cast_ofNat_Int, decide_true, decide_false, ne_eq, eq_self_iff_true, beq_eq_false_iff_ne, bne_iff_ne, List.replicate, encEv, QA_n, QA_r, K1, *] <;> simp_all <;> done))
        | ((with_reducible refine of_kSpec ?_); refine call_fz (spec14) rfl ?_)
        | (with_reducible refine ite_in (fun _ => ?_) (fun _ => ?_))
        | (with_reducible refine ⟨fun _ => ?_, fun _ => ?_⟩)
        | (with_reducible refine And.intro ?_ ?_)
        | (with_reducible intro _)
        | (with_reducible exact is_in _)
        | (simp -implicitDefEqProofs only [SD, SF, SL, e_nf, reduceCtorEq, implies_true, ↓reduceIte, Nat.reduceEqDiff, Nat.reduceAdd, Nat.reduceMul, Nat.reduceSub, Nat.reduceLeDiff, Nat.reduceLT, Int.reduceLT, Int.reduceLE, Int.reduceEq, Int.reduceToNat, Int.reduceAdd, Int.reduceSub, Int.reduceNeg, Int.reduceBEq, Int.reduceBNe, Nat.reduceBEq, Int.cast_ofNat_Int, decide_true, decide_false, ne_eq, eq_self_iff_true, beq_eq_false_iff_ne, bne_iff_ne, List.replicate, encEv, QA_n, QA_r, K1, *]))))
      all_goals (first | omega | rfl | (simp_all; done) | trace_state)
theorem few_le {es : List Ev} (h : fewB es = true) : ∀ e ∈ es, e.allow.length ≤ 1000 := by
  intro e he
  have := List.all_eq_true.1 h e he
  simp only [decide_eq_true_eq] at this
  omega
theorem walkC (es : List Ev) (hb : ∀ e ∈ es, e.allow.length ≤ 1000) : dwp Try.prog ac_pC ⟨E1 es, mV es⟩ (QA (K2 es)) := by
  unfold ac_pC E1 mV
  iterate 30 (all_goals (try (first
    | ((with_reducible refine of_kSpec ?_); refine call_fz (spec16 es hb) rfl ?_)
    | (with_reducible refine ite_in (fun _ => ?_) (fun _ => ?_))
    | (with_reducible refine ⟨fun _ => ?_, fun _ => ?_⟩)
    | (with_reducible refine And.intro ?_ ?_)
    | (with_reducible intro _)
    | (with_reducible exact is_in _)
    | (simp -implicitDefEqProofs only [SD, SF, SL, e_nf, reduceCtorEq, implies_true, ↓reduceIte, Nat.reduceEqDiff, Nat.reduceAdd, Nat.reduceMul, Nat.reduceSub, Nat.reduceLeDiff, Nat.reduceLT, Int.reduceLT, Int.reduceLE, Int.reduceEq, Int.reduceToNat, Int.reduceAdd, Int.reduceSub, Int.reduceNeg, Int.reduceBEq, Int.reduceBNe, Nat.reduceBEq, Int.cast_ofNat_Int, decide_true, decide_false, ne_eq, eq_self_iff_true, beq_eq_false_iff_ne, bne_iff_ne, List.replicate, QA_n, QA_r, K2, *]))))
  all_goals (first | rfl | (simp_all; done))
def QN1 (K : DS → Prop) (e : AE) (s : DS) : Prop := match e with
  | .normal => K s
  | _ => False
theorem QN1_n (K : DS → Prop) (s : DS) : QN1 K .normal s = K s := rfl
theorem walkD (es : List Ev) : dwp Try.prog ac_pD ⟨E2f es, []⟩ (QN1 KD) := by
  unfold ac_pD E2f
  iterate 30 (all_goals (try (first
    | ((with_reducible refine of_kSpec ?_); refine call_fz (spec17 (rulesL es).2 (rulesL es).2) rfl ?_)
    | (with_reducible refine ite_in (fun _ => ?_) (fun _ => ?_))
    | (with_reducible refine ⟨fun _ => ?_, fun _ => ?_⟩)
    | (with_reducible refine And.intro ?_ ?_)
    | (with_reducible intro _)
    | (with_reducible exact is_in _)
    | (simp -implicitDefEqProofs only [SD, SF, SL, e_nf, reduceCtorEq, implies_true, ↓reduceIte, Nat.reduceEqDiff, Nat.reduceAdd, Nat.reduceMul, Nat.reduceSub, Nat.reduceLeDiff, Nat.reduceLT, Int.reduceLT, Int.reduceLE, Int.reduceEq, Int.reduceToNat, Int.reduceAdd, Int.reduceSub, Int.reduceNeg, Int.reduceBEq, Int.reduceBNe, Nat.reduceBEq, Int.cast_ofNat_Int, decide_true, decide_false, ne_eq, eq_self_iff_true, beq_eq_false_iff_ne, bne_iff_ne, List.replicate, QN1_n, KD, *]))))
  all_goals (first | rfl | (simp_all; done))
theorem walkT (es : List Ev) (hb : ∀ e ∈ es, e.allow.length ≤ 1000) : dwp Try.prog ac_pT ⟨E3 es, []⟩ (QA (fun _ => False)) := by
  unfold ac_pT E3
  iterate 30 (all_goals (try (first
    | ((with_reducible refine of_kSpec ?_); refine call_fz (spec15 es hb) rfl ?_)
    | ((with_reducible refine of_kSpec ?_); refine call_fz (spec17 (rulesL es).2 (rulesL es).2) rfl ?_)
    | ((with_reducible refine of_kSpec ?_); refine call_fz (spec14) rfl ?_)
    | (with_reducible refine ite_in (fun _ => ?_) (fun _ => ?_))
    | (with_reducible refine ⟨fun _ => ?_, fun _ => ?_⟩)
    | (with_reducible refine And.intro ?_ ?_)
    | (with_reducible intro _)
    | (with_reducible exact is_in _)
    | (simp -implicitDefEqProofs only [SD, SF, SL, e_nf, reduceCtorEq, implies_true, ↓reduceIte, Nat.reduceEqDiff, Nat.reduceAdd, Nat.reduceMul, Nat.reduceSub, Nat.reduceLeDiff, Nat.reduceLT, Int.reduceLT, Int.reduceLE, Int.reduceEq, Int.reduceToNat, Int.reduceAdd, Int.reduceSub, Int.reduceNeg, Int.reduceBEq, Int.reduceBNe, Nat.reduceBEq, Int.cast_ofNat_Int, decide_true, decide_false, ne_eq, eq_self_iff_true, beq_eq_false_iff_ne, bne_iff_ne, List.replicate, QA_n, QA_r, KD, *]))))
  all_goals (first | rfl | (simp_all; done))
theorem walkL (es : List Ev) : dwp Try.prog ac_pL ⟨E2 es, mV es⟩ (QA (K3 es)) := by
  unfold ac_pL E2 mV
  iterate 4 (all_goals (try (first
    | (with_reducible refine ite_in (fun _ => ?_) (fun _ => ?_))
    | (with_reducible refine ⟨fun _ => ?_, fun _ => ?_⟩)
    | (with_reducible refine And.intro ?_ ?_)
    | (with_reducible intro _)
    | (with_reducible exact is_in _)
    | (simp -implicitDefEqProofs only [SD, SF, SL, e_nf, reduceCtorEq, implies_true, ↓reduceIte, Nat.reduceEqDiff, Nat.reduceAdd, Nat.reduceMul, Nat.reduceSub, Nat.reduceLeDiff, Nat.reduceLT, Int.reduceLT, Int.reduceLE, Int.reduceEq, Int.reduceToNat, Int.reduceAdd, Int.reduceSub, Int.reduceNeg, Int.reduceBEq, Int.reduceBNe, Nat.reduceBEq, Int.cast_ofNat_Int, decide_true, decide_false, ne_eq, eq_self_iff_true, beq_eq_false_iff_ne, bne_iff_ne, List.replicate, QA_n, QA_r, List.length_map, *]))))
  refine loop_r (X := Nat × List (List DV)) (fun n x => n = (rulesL es).2.length - x.1 ∧ x.1 ≤ (rulesL es).2.length ∧ x.2.length = (rulesL es).2.length) (fun x => [(51, .int .i64 x.1)]) (fun x => [(34, .vec 9 1 x.2)]) [8, 52, 53, 54, 55, 56, 57] [34] [] (rulesL es).2.length (0, ((rulesL es).2.map encS)) ⟨rfl, Nat.zero_le _, by simp⟩ ?_ ?_
  · simp -implicitDefEqProofs only [SD, SF, SL, e_nf, reduceCtorEq, implies_true, ↓reduceIte, Nat.reduceEqDiff, Nat.reduceAdd, Nat.reduceMul, Nat.reduceSub, Nat.reduceLeDiff, Nat.reduceLT, Int.reduceLT, Int.reduceLE, Int.reduceEq, Int.reduceToNat, Int.reduceAdd, Int.reduceSub, Int.reduceNeg, Int.reduceBEq, Int.reduceBNe, Nat.reduceBEq, Int.cast_ofNat_Int, decide_true, decide_false, ne_eq, eq_self_iff_true, beq_eq_false_iff_ne, bne_iff_ne, List.replicate] <;> simp
  · rintro n ⟨i, l⟩ ⟨rfl, hi, hl⟩
    dsimp only at hi hl
    have hli : (l.length : Int) = ((rulesL es).2.length : Int) := by omega
    by_cases hlt : i < (rulesL es).2.length
    case neg =>
      have hlt' : ¬ ((i : Int) < ((rulesL es).2.length : Int)) := by omega
      iterate 30 (all_goals (try (first
        | (with_reducible refine ite_in (fun _ => ?_) (fun _ => ?_))
        | (with_reducible refine ⟨fun _ => ?_, fun _ => ?_⟩)
        | (with_reducible refine And.intro ?_ ?_)
        | (with_reducible intro _)
        | (with_reducible exact is_in _)
        | (simp -implicitDefEqProofs only [SD, SF, SL, e_nf, reduceCtorEq, implies_true, ↓reduceIte, Nat.reduceEqDiff, Nat.reduceAdd, Nat.reduceMul, Nat.reduceSub, Nat.reduceLeDiff, Nat.reduceLT, Int.reduceLT, Int.reduceLE, Int.reduceEq, Int.reduceToNat, Int.reduceAdd, Int.reduceSub, Int.reduceNeg, Int.reduceBEq, Int.reduceBNe, Nat.reduceBEq, Int.cast_ofNat_Int, decide_true, decide_false, ne_eq, eq_self_iff_true, beq_eq_false_iff_ne, bne_iff_ne, List.replicate, QA_n, QA_r, K3, *]))))
      all_goals (first | rfl | (simp_all; done) | trace_state)
    case pos =>
      have hlt' : (i : Int) < ((rulesL es).2.length : Int) := by omega
      have hil : i < l.length := by omega
      have hil' : (i : Int) < (l.length : Int) := by omega
      have hml : (rulesL es).2.length ≤ maxLen := by assumption
      have hw := wrap_len (n := i) (m := (rulesL es).2.length) hlt hml
      iterate 30 (all_goals (try (first
        | ((with_reducible refine back_in ((rulesL es).2.length - (i + 1)) [8, 52, 53, 54, 55, 56, 57] [] (i + 1, l.set i (DV.str [99, 104, 97, 110, 103, 101, 100] :: List.drop 1 (l.getD i []))) ?_ ⟨rfl, ?_, ?_⟩ ?_)
           · omega
           · dsimp only; omega
           · simp [hl]
           · first | (simp -implicitDefEqProofs only [SD, SF, SL, e_nf, reduceCtorEq, implies_true, ↓reduceIte, Nat.reduceEqDiff, Nat.reduceAdd, Nat.reduceMul, Nat.reduceSub, Nat.reduceLeDiff, Nat.reduceLT, Int.reduceLT, Int.reduceLE, Int.reduceEq, Int.reduceToNat, Int.reduceAdd, Int.reduceSub, Int.reduceNeg, Int.reduceBEq, Int.reduceBNe, Nat.reduceBEq, Int.cast_ofNat_Int, decide_true, decide_false, ne_eq, eq_self_iff_true, beq_eq_false_iff_ne, bne_iff_ne, List.replicate] <;> simp <;> done) | (simp -implicitDefEqProofs only [SD, SF, SL, e_nf, reduceCtorEq, implies_true, ↓reduceIte, Nat.reduceEqDiff, Nat.reduceAdd, Nat.reduceMul, Nat.reduceSub, Nat.reduceLeDiff, Nat.reduceLT, Int.reduceLT, Int.reduceLE, Int.reduceEq, Int.reduceToNat, Int.reduceAdd, Int.reduceSub, Int.reduceNeg, Int.reduceBEq, Int.reduceBNe, Nat.reduceBEq, Int.cast_ofNat_Int, decide_true, decide_false, ne_eq, eq_self_iff_true, beq_eq_false_iff_ne, bne_iff_ne, List.replicate, *] <;> simp_all <;> done) | trace_state)
        | (with_reducible refine ite_in (fun _ => ?_) (fun _ => ?_))
        | (with_reducible refine ⟨fun _ => ?_, fun _ => ?_⟩)
        | (with_reducible refine And.intro ?_ ?_)
        | (with_reducible intro _)
        | (with_reducible exact is_in _)
        | (simp -implicitDefEqProofs only [SD, SF, SL, e_nf, reduceCtorEq, implies_true, ↓reduceIte, Nat.reduceEqDiff, Nat.reduceAdd, Nat.reduceMul, Nat.reduceSub, Nat.reduceLeDiff, Nat.reduceLT, Int.reduceLT, Int.reduceLE, Int.reduceEq, Int.reduceToNat, Int.reduceAdd, Int.reduceSub, Int.reduceNeg, Int.reduceBEq, Int.reduceBNe, Nat.reduceBEq, Int.cast_ofNat_Int, decide_true, decide_false, ne_eq, eq_self_iff_true, beq_eq_false_iff_ne, bne_iff_ne, List.replicate, QA_n, QA_r, K3, *]))))
      all_goals (first | rfl | (simp_all; done) | trace_state)

end Go.Proofs.Ythackanfbemabaa.E
