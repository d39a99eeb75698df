/-
  FiR: walks of functions of the program at data level.
-/
import Derived.Test.YtamcbdflmephdaaProg
import Derived.Test.YtamcbdflmephdaaEngZ
import Derived.Test.YtamcbdflmephdaaFiQ
import Derived.KernelRfl
set_option linter.unusedVariables false
set_option linter.unusedSimpArgs false
namespace Go.Proofs.Ytamcbdflmephdaa.E
open Go
set_option maxHeartbeats 4000000
set_option maxRecDepth 100000
set_option linter.unusedSimpArgs false
set_option linter.unusedVariables false
attribute [local congr] c_wp c_ops c_op c_opS c_run c_runS c_dt c_seq c_blk c_loop c_S c_put c_bind c_mv c_pick c_nt c_ng c_bin c_binI c_binS c_beq c_B c_eqa c_hd c_cells c_blkK c_box c_vec c_mp c_nck c_mks c_appn c_mkm c_mput c_mlk c_mrm c_take c_ld c_ldF c_cellsK c_st c_fld c_fldv c_ix c_ixp c_ixv c_ixs c_sub c_subs c_len c_lens c_src c_dst c_ow c_app c_ext c_mm c_conv c_str c_isn c_fill c_rows c_boxo c_frz c_frzO c_frzA c_frzV c_spec c_specO c_opsP c_opP c_runP c_specP c_Z c_qretP c_fz c_fn c_gv c_cond c_res1 c_resL c_ret c_qret c_ite c_unr c_nx c_bk c_cut c_is
attribute [local irreducible] dwp

theorem loop_r {P : Program} {Q : AE → DS → Prop} {X : Type} {c : AC} {E : List DV} {M : Mem} (R : Nat → X → Prop) (pe : X → List (Nat × DV)) (pm : X → List (Nat × Blk)) (ts0 ks ks0 : List Nat) (n0 : Nat) (x0 : X) (hR : R n0 x0)
    (h0 : forget ts0 ks0 ⟨E, M⟩ = ⟨pE (pe x0) (forgetE ts0 E), pM (pm x0) (msort (mdels ks M))⟩)
    (hr : ∀ n x, R n x → dwp P c ⟨pE (pe x) (forgetE ts0 E), pM (pm x) (msort (mdels ks M))⟩
      (kLoop (kBk R (fun x => ⟨pE (pe x) (forgetE ts0 E), pM (pm x) (msort (mdels ks M))⟩) n) Q)) : dwp P (.loop c) ⟨E, M⟩ Q := by
  unfold dwp
  refine ⟨fun n s => ∃ x, R n x ∧ s = ⟨pE (pe x) (forgetE ts0 E), pM (pm x) (msort (mdels ks M))⟩, n0, ts0, ks0, ⟨x0, hR, h0⟩, ?_⟩
  rintro n s ⟨x, hx, rfl⟩
  exact hr n x hx

def inB {α : Type} [DecidableEq α] (a b : List α) : List α := a.filter fun x => decide (x ∈ b)
def bothE {α : Type} [DecidableEq α] (a b : List α) : List α × Bool := if a = [] then (b, true) else if b = [] then (a, true) else (inB a b, decide (inB a b ≠ []))
theorem inB_snoc {α : Type} [DecidableEq α] (pre : List α) (x : α) (b : List α) : inB (pre ++ [x]) b = if x ∈ b then inB pre b ++ [x] else inB pre b := by
  unfold inB
  rw [List.filter_append]
  by_cases h : x ∈ b <;> simp [h]
theorem inB_len {α : Type} [DecidableEq α] (pre : List α) (b : List α) : (inB pre b).length ≤ pre.length := List.length_filter_le _ _
theorem len0 {α : Type} (l : List α) : ((l.length : Int) = 0) = (l = []) := by simp
theorem len1 {α : Type} (l : List α) : ((0 : Int) < (l.length : Int)) = ¬ (l = []) := by
  rw [← len0]
  apply propext
  omega
theorem dec_len {α : Type} [DecidableEq α] (l : List α) : decide ((0 : Int) < (l.length : Int)) = decide (l ≠ []) := decide_eq_decide.2 (by rw [len1])
theorem dec_len3 {α : Type} [DecidableEq α] (l : List α) : decide (0 < l.length) = !decide (l = []) := by cases l <;> simp
def everyL : List Int := [1, 2, 3, 4, 5, 6, 7, 8, 9, 10, 11, 12, 13, 14]
def ac41 : AC := (.seq (.ops [⟨(some 2), none, (.mv (.c .e0))⟩]) (.seq (.seq (.ops [⟨(some 3), none, (.mv (.t 0))⟩, ⟨(some 4), none, (.isn false (.t 3))⟩]) (.cond (.t 4) (.seq (.ops [⟨(some 2), none, (.mv (.c .e0))⟩]) .ret) .skip)) (.seq (.ops [⟨(some 5), none, (.buildSl 30 1 0 [(.int .i64 0)] [])⟩, ⟨(some 6), none, (.mv (.t 0))⟩, ⟨(some 7), none, (.app 30 1 8 (.t 5) (.t 6))⟩, ⟨(some 2), none, (.mv (.t 7))⟩]) .ret)))
theorem tr41 : Try.f41.body.bind (trCode Try.prog) = some (strip ac41) := by kernel_rfl
theorem spec41 (l : List Int) (hb : l.length ≤ 1000) : Spec Try.prog 41 [.fz (.sl 1 (l.map encN))] (.own 30 1 (l.map encN)) := by
  refine spec_at (n := 7) (ars := [(.t 2)]) (ac := ac41) Try.func41 (by kernel_rfl) (by kernel_rfl) tr41 (by kernel_rfl) ?_
  unfold ac41
  have h1 : l.length ≤ maxLen := by simp only [maxLen]; omega
  have h2 : l.length * 8 ≤ 140737488355328 := by omega
  iterate 30 (all_goals (try (first
    | (with_reducible refine ite_in (fun _ => ?_) (fun _ => ?_))
    | (with_reducible refine ⟨fun _ => ?_, fun _ => ?_⟩)
    | (with_reducible refine And.intro ?_ ?_)
    | (with_reducible intro _)
    | (with_reducible exact is_in _)
    | (simp -implicitDefEqProofs only [SD, SF, SL, e_nf, reduceCtorEq, implies_true, ↓reduceIte, Nat.reduceEqDiff, Nat.reduceAdd, Nat.reduceMul, Nat.reduceSub, Nat.reduceLeDiff, Nat.reduceLT, Int.reduceLT, Int.reduceLE, Int.reduceEq, Int.reduceToNat, Int.reduceAdd, Int.reduceSub, Int.reduceNeg, Int.reduceBEq, Int.reduceBNe, Nat.reduceBEq, Int.cast_ofNat_Int, decide_true, decide_false, ne_eq, eq_self_iff_true, beq_eq_false_iff_ne, bne_iff_ne, List.replicate, *]))))
  all_goals (simp_all)
def ac58 : AC := (.seq (.ops [⟨(some 2), none, (.mv (.c .e0))⟩]) (.seq (.seq (.ops [⟨(some 3), none, (.mv (.t 0))⟩, ⟨(some 4), none, (.isn false (.t 3))⟩]) (.cond (.t 4) (.seq (.ops [⟨(some 2), none, (.mv (.c .e0))⟩]) .ret) .skip)) (.seq (.ops [⟨(some 5), none, (.buildSl 9 1 0 [(.str [])] [])⟩, ⟨(some 6), none, (.mv (.t 0))⟩, ⟨(some 7), none, (.app 9 1 16 (.t 5) (.t 6))⟩, ⟨(some 2), none, (.mv (.t 7))⟩]) .ret)))
theorem tr58 : Try.f58.body.bind (trCode Try.prog) = some (strip ac58) := by kernel_rfl
theorem spec58 (l : List (List UInt8)) (hb : l.length ≤ 1000) : Spec Try.prog 58 [.fz (.sl 1 (l.map encS))] (.own 9 1 (l.map encS)) := by
  refine spec_at (n := 7) (ars := [(.t 2)]) (ac := ac58) Try.func58 (by kernel_rfl) (by kernel_rfl) tr58 (by kernel_rfl) ?_
  unfold ac58
  have h1 : l.length ≤ maxLen := by simp only [maxLen]; omega
  have h2 : l.length * 16 ≤ 140737488355328 := by omega
  iterate 30 (all_goals (try (first
    | (with_reducible refine ite_in (fun _ => ?_) (fun _ => ?_))
    | (with_reducible refine ⟨fun _ => ?_, fun _ => ?_⟩)
    | (with_reducible refine And.intro ?_ ?_)
    | (with_reducible intro _)
    | (with_reducible exact is_in _)
    | (simp -implicitDefEqProofs only [SD, SF, SL, e_nf, reduceCtorEq, implies_true, ↓reduceIte, Nat.reduceEqDiff, Nat.reduceAdd, Nat.reduceMul, Nat.reduceSub, Nat.reduceLeDiff, Nat.reduceLT, Int.reduceLT, Int.reduceLE, Int.reduceEq, Int.reduceToNat, Int.reduceAdd, Int.reduceSub, Int.reduceNeg, Int.reduceBEq, Int.reduceBNe, Nat.reduceBEq, Int.cast_ofNat_Int, decide_true, decide_false, ne_eq, eq_self_iff_true, beq_eq_false_iff_ne, bne_iff_ne, List.replicate, *]))))
  all_goals (simp_all)
def ac42 : AC := (.seq (.ops [⟨(some 4), none, (.mv (.c .e0))⟩, ⟨(some 5), none, (.mv (.c (.bool false)))⟩]) (.seq (.seq (.ops [⟨(some 9), none, (.mv (.t 0))⟩, ⟨(some 10), none, (.len (.t 9))⟩, ⟨(some 11), none, (.bin .eql (.t 10) (.c (.int .i64 0)))⟩]) (.cond (.t 11) (.seq (.ops [⟨(some 12), none, (.mv (.t 1))⟩, ⟨(some 13), none, (.call false 41 [(.t 12)])⟩, ⟨(some 4), none, (.mv (.t 13))⟩, ⟨(some 5), none, (.mv (.c (.bool true)))⟩]) .ret) .skip)) (.seq (.seq (.ops [⟨(some 14), none, (.mv (.t 1))⟩, ⟨(some 15), none, (.len (.t 14))⟩, ⟨(some 16), none, (.bin .eql (.t 15) (.c (.int .i64 0)))⟩]) (.cond (.t 16) (.seq (.ops [⟨(some 17), none, (.mv (.t 0))⟩, ⟨(some 18), none, (.call false 41 [(.t 17)])⟩, ⟨(some 4), none, (.mv (.t 18))⟩, ⟨(some 5), none, (.mv (.c (.bool true)))⟩]) .ret) .skip)) (.seq (.ops [⟨(some 6), none, (.mv (.c .e0))⟩]) (.seq (.seq (.ops [⟨(some 19), none, (.mv (.t 0))⟩, ⟨(some 20), none, (.len (.t 19))⟩, ⟨(some 21), none, (.mv (.c (.int .i64 0)))⟩]) (.block 0 (.loop (.seq (.ops [⟨(some 22), none, (.bin .lss (.t 21) (.t 20))⟩]) (.seq (.cond (.t 22) .skip (.exit 0)) (.seq (.block 1 (.seq (.ops [⟨(some 23), none, (.ix 1 (.t 19) (.t 21))⟩, ⟨(some 24), none, (.ld false 1 (.t 23))⟩, ⟨(some 8), none, (.mv (.t 24))⟩]) (.seq (.ops [⟨(some 25), none, (.mv (.t 1))⟩, ⟨(some 26), none, (.mv (.t 8))⟩, ⟨(some 27), none, (.call false 34 [(.t 25), (.t 26)])⟩]) (.cond (.t 27) (.ops [⟨(some 28), none, (.mv (.t 6))⟩, ⟨(some 29), none, (.mv (.t 8))⟩, ⟨(some 30), none, (.buildSl 30 1 1 [(.int .i64 0)] [(0, (.t 29))])⟩, ⟨(some 31), none, (.app 30 1 8 (.t 28) (.t 30))⟩, ⟨(some 6), none, (.mv (.t 31))⟩]) .skip)))) (.ops [⟨(some 32), none, (.bin .add (.t 21) (.c (.int .i64 1)))⟩, ⟨(some 21), none, (.mv (.t 32))⟩]))))))) (.seq (.ops [⟨(some 33), none, (.mv (.t 6))⟩, ⟨(some 34), none, (.mv (.t 6))⟩, ⟨(some 35), none, (.len (.t 34))⟩, ⟨(some 36), none, (.bin .gtr (.t 35) (.c (.int .i64 0)))⟩, ⟨(some 4), none, (.mv (.t 33))⟩, ⟨(some 5), none, (.mv (.t 36))⟩]) .ret))))))
theorem tr42 : Try.f42.body.bind (trCode Try.prog) = some (strip ac42) := by kernel_rfl
theorem spec42 (u v : List Int) (ha : u.length ≤ 400) (hb : v.length ≤ 400) : Spec Try.prog 42 [.fz (.sl 1 (u.map encN)), .fz (.sl 1 (v.map encN))] (.fz (.tup [.sl 1 ((bothE u v).1.map encN), .bool (bothE u v).2])) := by
  refine spec_at (n := 35) (ars := [(.t 4), (.t 5)]) (ac := ac42) Try.func42 (by kernel_rfl) (by kernel_rfl) tr42 (by kernel_rfl) ?_
  unfold ac42
  have ha1 : u.length ≤ 1000 := by omega
  have hb1 : v.length ≤ 1000 := by omega
  by_cases ha0 : u = []
  case pos =>
    have hbe : bothE u v = (v, true) := by simp [bothE, ha0]
    have hla : (u.length : Int) = 0 := by rw [ha0]; rfl
    clear ha0
    iterate 30 (all_goals (try (first
      | ((with_reducible refine of_kSpec ?_); refine call_ow (spec41 u ha1) rfl ?_)
      | ((with_reducible refine of_kSpec ?_); refine call_ow (spec41 v hb1) rfl ?_)
      | (with_reducible refine ite_in (fun _ => ?_) (fun _ => ?_))
      | (with_reducible refine ⟨fun _ => ?_, fun _ => ?_⟩)
      | (with_reducible refine And.intro ?_ ?_)
      | (with_reducible intro _)
      | (with_reducible exact is_in _)
      | (simp -implicitDefEqProofs only [SD, SF, SL, e_nf, reduceCtorEq, implies_true, ↓reduceIte, Nat.reduceEqDiff, Nat.reduceAdd, Nat.reduceMul, Nat.reduceSub, Nat.reduceLeDiff, Nat.reduceLT, Int.reduceLT, Int.reduceLE, Int.reduceEq, Int.reduceToNat, Int.reduceAdd, Int.reduceSub, Int.reduceNeg, Int.reduceBEq, Int.reduceBNe, Nat.reduceBEq, Int.cast_ofNat_Int, decide_true, decide_false, ne_eq, eq_self_iff_true, beq_eq_false_iff_ne, bne_iff_ne, List.replicate, *]))))
    all_goals (first | (simp_all; done) | exact .inl rfl)
  have hla : ¬ ((u.length : Int) = 0) := by rw [len0]; exact ha0
  by_cases hb0 : v = []
  case pos =>
    have hbe : bothE u v = (u, true) := by simp [bothE, ha0, hb0]
    have hlb : (v.length : Int) = 0 := by rw [hb0]; rfl
    clear hb0
    iterate 30 (all_goals (try (first
      | ((with_reducible refine of_kSpec ?_); refine call_ow (spec41 u ha1) rfl ?_)
      | ((with_reducible refine of_kSpec ?_); refine call_ow (spec41 v hb1) rfl ?_)
      | (with_reducible refine ite_in (fun _ => ?_) (fun _ => ?_))
      | (with_reducible refine ⟨fun _ => ?_, fun _ => ?_⟩)
      | (with_reducible refine And.intro ?_ ?_)
      | (with_reducible intro _)
      | (with_reducible exact is_in _)
      | (simp -implicitDefEqProofs only [SD, SF, SL, e_nf, reduceCtorEq, implies_true, ↓reduceIte, Nat.reduceEqDiff, Nat.reduceAdd, Nat.reduceMul, Nat.reduceSub, Nat.reduceLeDiff, Nat.reduceLT, Int.reduceLT, Int.reduceLE, Int.reduceEq, Int.reduceToNat, Int.reduceAdd, Int.reduceSub, Int.reduceNeg, Int.reduceBEq, Int.reduceBNe, Nat.reduceBEq, Int.cast_ofNat_Int, decide_true, decide_false, ne_eq, eq_self_iff_true, beq_eq_false_iff_ne, bne_iff_ne, List.replicate, *]))))
    all_goals (first | (simp_all; done) | exact .inl rfl)
  have hlb : ¬ ((v.length : Int) = 0) := by rw [len0]; exact hb0
  iterate 12 (all_goals (try (first
    | (with_reducible refine ite_in (fun _ => ?_) (fun _ => ?_))
    | (with_reducible refine ⟨fun _ => ?_, fun _ => ?_⟩)
    | (with_reducible refine And.intro ?_ ?_)
    | (with_reducible intro _)
    | (with_reducible exact is_in _)
    | (simp -implicitDefEqProofs only [SD, SF, SL, e_nf, reduceCtorEq, implies_true, ↓reduceIte, Nat.reduceEqDiff, Nat.reduceAdd, Nat.reduceMul, Nat.reduceSub, Nat.reduceLeDiff, Nat.reduceLT, Int.reduceLT, Int.reduceLE, Int.reduceEq, Int.reduceToNat, Int.reduceAdd, Int.reduceSub, Int.reduceNeg, Int.reduceBEq, Int.reduceBNe, Nat.reduceBEq, Int.cast_ofNat_Int, decide_true, decide_false, ne_eq, eq_self_iff_true, beq_eq_false_iff_ne, bne_iff_ne, List.replicate, *]))))
  refine loop_r (X := List Int × List Int × (DV × List (Nat × Blk))) (fun n x => u = x.1 ++ x.2.1 ∧ n = x.2.1.length ∧ ((inB x.1 v = [] ∧ x.2.2 = (DV.e0, [])) ∨ x.2.2 = (DV.ow 31, [(31, Blk.vec 30 1 ((inB x.1 v).map encN))]))) (fun x => [(21, .int .i64 x.1.length), (6, x.2.2.1)]) (fun x => x.2.2.2) [8, 22, 23, 24, 25, 26, 27, 28, 29, 30, 31, 32] [30, 31] [30] (u).length ([], u, (DV.e0, [])) ⟨rfl, rfl, by exact .inl ⟨rfl, rfl⟩⟩ ?_ ?_
  · simp -implicitDefEqProofs only [SD, SF, SL, e_nf, reduceCtorEq, implies_true, ↓reduceIte, Nat.reduceEqDiff, Nat.reduceAdd, Nat.reduceMul, Nat.reduceSub, Nat.reduceLeDiff, Nat.reduceLT, Int.reduceLT, Int.reduceLE, Int.reduceEq, Int.reduceToNat, Int.reduceAdd, Int.reduceSub, Int.reduceNeg, Int.reduceBEq, Int.reduceBNe, Nat.reduceBEq, Int.cast_ofNat_Int, decide_true, decide_false, ne_eq, eq_self_iff_true, beq_eq_false_iff_ne, bne_iff_ne, List.replicate, encN] <;> simp
  · rintro n ⟨pre, rest, a⟩ ⟨he, rfl, hI⟩
    dsimp only at he hI
    cases rest with
    | nil =>
      obtain rfl : u = pre := by simpa using he
      clear he
      have hlt : ¬ (((u).length : Int) < ((u).length : Int)) := Int.lt_irrefl _
      rcases hI with ⟨hl0, rfl⟩ | rfl
      all_goals try replace hl0 := Hd.mk hl0
      iterate 30 (all_goals (try (first
        | ((with_reducible refine of_kSpec ?_); refine call_fz (spec34 v _) rfl ?_)
        | (with_reducible refine ite_in (fun _ => ?_) (fun _ => ?_))
        | (with_reducible refine ⟨fun _ => ?_, fun _ => ?_⟩)
        | (with_reducible refine And.intro ?_ ?_)
        | (with_reducible intro _)
        | (with_reducible exact is_in _)
        | (simp -implicitDefEqProofs only [SD, SF, SL, e_nf, reduceCtorEq, implies_true, ↓reduceIte, Nat.reduceEqDiff, Nat.reduceAdd, Nat.reduceMul, Nat.reduceSub, Nat.reduceLeDiff, Nat.reduceLT, Int.reduceLT, Int.reduceLE, Int.reduceEq, Int.reduceToNat, Int.reduceAdd, Int.reduceSub, Int.reduceNeg, Int.reduceBEq, Int.reduceBNe, Nat.reduceBEq, Int.cast_ofNat_Int, decide_true, decide_false, ne_eq, eq_self_iff_true, beq_eq_false_iff_ne, bne_iff_ne, List.replicate, encN, *]))))
      all_goals (first | decide | (simp only [maxLen, List.length_append, List.length_map, List.length_cons, List.length_nil] <;> omega) | omega | (have hl := hl0.out; simp [bothE, ha0, hb0, hl]; done) | (simp [bothE, ha0, hb0, len1, dec_len]; done) | (simp [bothE, ha0, hb0, len1, dec_len3]; done) | (simp [bothE, ha0, hb0]; omega) | (simp_all [bothE, len1]; done))

    | cons x rest =>
      have hlt := cut_lt he
      have hx := cutD encN he
      simp only [encN] at hx
      have hw := wrap_len (n := pre.length) (m := (u).length) (cut_lt' he) (by simp only [maxLen]; omega)
      replace he := Hd.mk he
      have hz1 := cut_lt' he.out
      have hlo := inB_len pre v
      have hz2 : (inB pre v).length + 1 ≤ maxLen := by simp only [maxLen]; omega
      have hz3 : ((inB pre v).length + 1) * 8 ≤ 140737488355328 := by omega
      have hsn := inB_snoc pre x v
      rcases hI with ⟨hp0, rfl⟩ | rfl
      all_goals try replace hp0 := Hd.mk hp0
      iterate 30 (all_goals (try (first
        | ((with_reducible refine back_in rest.length [8, 22, 23, 24, 25, 26, 27, 28, 29, 30, 31, 32] [30] (pre ++ [x], rest, (DV.e0, [])) ?_ ⟨?_, ?_, ?_⟩ ?_)
           · simp
           · exact cut_snoc he.out
           · rfl
           · first | (left; refine ⟨?_, rfl⟩; rw [hsn, if_neg (by assumption)]; exact hp0.out) | (right; rw [hsn, if_neg (by assumption)]) | (right; rw [hsn, if_pos (by assumption), List.map_append]; rfl) | (right; rw [hsn, if_pos (by assumption), hp0.out]; rfl)
           · first | (simp -implicitDefEqProofs only [SD, SF, SL, e_nf, reduceCtorEq, implies_true, ↓reduceIte, Nat.reduceEqDiff, Nat.reduceAdd, Nat.reduceMul, Nat.reduceSub, Nat.reduceLeDiff, Nat.reduceLT, Int.reduceLT, Int.reduceLE, Int.reduceEq, Int.reduceToNat, Int.reduceAdd, Int.reduceSub, Int.reduceNeg, Int.reduceBEq, Int.reduceBNe, Nat.reduceBEq, Int.cast_ofNat_Int, decide_true, decide_false, ne_eq, eq_self_iff_true, beq_eq_false_iff_ne, bne_iff_ne, List.replicate, encN] <;> simp <;> done) | (simp -implicitDefEqProofs only [SD, SF, SL, e_nf, reduceCtorEq, implies_true, ↓reduceIte, Nat.reduceEqDiff, Nat.reduceAdd, Nat.reduceMul, Nat.reduceSub, Nat.reduceLeDiff, Nat.reduceLT, Int.reduceLT, Int.reduceLE, Int.reduceEq, Int.reduceToNat, Int.reduceAdd, Int.reduceSub, Int.reduceNeg, Int.reduceBEq, Int.reduceBNe, Nat.reduceBEq, Int.cast_ofNat_Int, decide_true, decide_false, ne_eq, eq_self_iff_true, beq_eq_false_iff_ne, bne_iff_ne, List.replicate, encN, *] <;> simp_all <;> done))
        | ((with_reducible refine back_in rest.length [8, 22, 23, 24, 25, 26, 27, 28, 29, 30, 31, 32] [30] (pre ++ [x], rest, (DV.ow 31, [(31, Blk.vec 30 1 ((inB pre v).map encN))])) ?_ ⟨?_, ?_, ?_⟩ ?_)
           · simp
           · exact cut_snoc he.out
           · rfl
           · first | (left; refine ⟨?_, rfl⟩; rw [hsn, if_neg (by assumption)]; exact hp0.out) | (right; rw [hsn, if_neg (by assumption)]) | (right; rw [hsn, if_pos (by assumption), List.map_append]; rfl) | (right; rw [hsn, if_pos (by assumption), hp0.out]; rfl)
           · first | (simp -implicitDefEqProofs only [SD, SF, SL, e_nf, reduceCtorEq, implies_true, ↓reduceIte, Nat.reduceEqDiff, Nat.reduceAdd, Nat.reduceMul, Nat.reduceSub, Nat.reduceLeDiff, Nat.reduceLT, Int.reduceLT, Int.reduceLE, Int.reduceEq, Int.reduceToNat, Int.reduceAdd, Int.reduceSub, Int.reduceNeg, Int.reduceBEq, Int.reduceBNe, Nat.reduceBEq, Int.cast_ofNat_Int, decide_true, decide_false, ne_eq, eq_self_iff_true, beq_eq_false_iff_ne, bne_iff_ne, List.replicate, encN] <;> simp <;> done) | (simp -implicitDefEqProofs only [SD, SF, SL, e_nf, reduceCtorEq, implies_true, ↓reduceIte, Nat.reduceEqDiff, Nat.reduceAdd, Nat.reduceMul, Nat.reduceSub, Nat.reduceLeDiff, Nat.reduceLT, Int.reduceLT, Int.reduceLE, Int.reduceEq, Int.reduceToNat, Int.reduceAdd, Int.reduceSub, Int.reduceNeg, Int.reduceBEq, Int.reduceBNe, Nat.reduceBEq, Int.cast_ofNat_Int, decide_true, decide_false, ne_eq, eq_self_iff_true, beq_eq_false_iff_ne, bne_iff_ne, List.replicate, encN, *] <;> simp_all <;> done))
        | ((with_reducible refine back_in rest.length [8, 22, 23, 24, 25, 26, 27, 28, 29, 30, 31, 32] [30] (pre ++ [x], rest, (DV.ow 31, [(31, Blk.vec 30 1 ((inB pre v).map encN ++ [encN x]))])) ?_ ⟨?_, ?_, ?_⟩ ?_)
           · simp
           · exact cut_snoc he.out
           · rfl
           · first | (left; refine ⟨?_, rfl⟩; rw [hsn, if_neg (by assumption)]; exact hp0.out) | (right; rw [hsn, if_neg (by assumption)]) | (right; rw [hsn, if_pos (by assumption), List.map_append]; rfl) | (right; rw [hsn, if_pos (by assumption), hp0.out]; rfl)
           · first | (simp -implicitDefEqProofs only [SD, SF, SL, e_nf, reduceCtorEq, implies_true, ↓reduceIte, Nat.reduceEqDiff, Nat.reduceAdd, Nat.reduceMul, Nat.reduceSub, Nat.reduceLeDiff, Nat.reduceLT, Int.reduceLT, Int.reduceLE, Int.reduceEq, Int.reduceToNat, Int.reduceAdd, Int.reduceSub, Int.reduceNeg, Int.reduceBEq, Int.reduceBNe, Nat.reduceBEq, Int.cast_ofNat_Int, decide_true, decide_false, ne_eq, eq_self_iff_true, beq_eq_false_iff_ne, bne_iff_ne, List.replicate, encN] <;> simp <;> done) | (simp -implicitDefEqProofs only [SD, SF, SL, e_nf, reduceCtorEq, implies_true, ↓reduceIte, Nat.reduceEqDiff, Nat.reduceAdd, Nat.reduceMul, Nat.reduceSub, Nat.reduceLeDiff, Nat.reduceLT, Int.reduceLT, Int.reduceLE, Int.reduceEq, Int.reduceToNat, Int.reduceAdd, Int.reduceSub, Int.reduceNeg, Int.reduceBEq, Int.reduceBNe, Nat.reduceBEq, Int.cast_ofNat_Int, decide_true, decide_false, ne_eq, eq_self_iff_true, beq_eq_false_iff_ne, bne_iff_ne, List.replicate, encN, *] <;> simp_all <;> done))
        | ((with_reducible refine back_in rest.length [8, 22, 23, 24, 25, 26, 27, 28, 29, 30, 31, 32] [30] (pre ++ [x], rest, (DV.ow 31, [(31, Blk.vec 30 1 ([encN x]))])) ?_ ⟨?_, ?_, ?_⟩ ?_)
           · simp
           · exact cut_snoc he.out
           · rfl
           · first | (left; refine ⟨?_, rfl⟩; rw [hsn, if_neg (by assumption)]; exact hp0.out) | (right; rw [hsn, if_neg (by assumption)]) | (right; rw [hsn, if_pos (by assumption), List.map_append]; rfl) | (right; rw [hsn, if_pos (by assumption), hp0.out]; rfl)
           · first | (simp -implicitDefEqProofs only [SD, SF, SL, e_nf, reduceCtorEq, implies_true, ↓reduceIte, Nat.reduceEqDiff, Nat.reduceAdd, Nat.reduceMul, Nat.reduceSub, Nat.reduceLeDiff, Nat.reduceLT, Int.reduceLT, Int.reduceLE, Int.reduceEq, Int.reduceToNat, Int.reduceAdd, Int.reduceSub, Int.reduceNeg, Int.reduceBEq, Int.reduceBNe, Nat.reduceBEq, Int.cast_ofNat_Int, decide_true, decide_false, ne_eq, eq_self_iff_true, beq_eq_false_iff_ne, bne_iff_ne, List.replicate, encN] <;> simp <;> done) | (simp -implicitDefEqProofs only [SD, SF, SL, e_nf, reduceCtorEq, implies_true, ↓reduceIte, Nat.reduceEqDiff, Nat.reduceAdd, Nat.reduceMul, Nat.reduceSub, Nat.reduceLeDiff, Nat.reduceLT, Int.reduceLT, Int.reduceLE, Int.reduceEq, Int.reduceToNat, Int.reduceAdd, Int.reduceSub, Int.reduceNeg, Int.reduceBEq, Int.reduceBNe, Nat.reduceBEq, Int.cast_ofNat_Int, decide_true, decide_false, ne_eq, eq_self_iff_true, beq_eq_false_iff_ne, bne_iff_ne, List.replicate, encN, *] <;> simp_all <;> done))
        | ((with_reducible refine of_kSpec ?_); refine call_fz (spec34 v _) rfl ?_)
        | (with_reducible refine ite_in (fun _ => ?_) (fun _ => ?_))
        | (with_reducible refine ⟨fun _ => ?_, fun _ => ?_⟩)
        | (with_reducible refine And.intro ?_ ?_)
        | (with_reducible intro _)
        | (with_reducible exact is_in _)
        | (simp -implicitDefEqProofs only [SD, SF, SL, e_nf, reduceCtorEq, implies_true, ↓reduceIte, Nat.reduceEqDiff, Nat.reduceAdd, Nat.reduceMul, Nat.reduceSub, Nat.reduceLeDiff, Nat.reduceLT, Int.reduceLT, Int.reduceLE, Int.reduceEq, Int.reduceToNat, Int.reduceAdd, Int.reduceSub, Int.reduceNeg, Int.reduceBEq, Int.reduceBNe, Nat.reduceBEq, Int.cast_ofNat_Int, decide_true, decide_false, ne_eq, eq_self_iff_true, beq_eq_false_iff_ne, bne_iff_ne, List.replicate, encN, *]))))
      all_goals (first | decide | (simp only [maxLen, List.length_append, List.length_map, List.length_cons, List.length_nil] <;> omega) | omega | (have hl := hl0.out; simp [bothE, ha0, hb0, hl]; done) | (simp [bothE, ha0, hb0, len1, dec_len]; done) | (simp [bothE, ha0, hb0, len1, dec_len3]; done) | (simp [bothE, ha0, hb0]; omega) | (simp_all [bothE, len1]; done))
def ac43 : AC := (.seq (.ops [⟨(some 4), none, (.mv (.c .e0))⟩, ⟨(some 5), none, (.mv (.c (.bool false)))⟩]) (.seq (.seq (.ops [⟨(some 9), none, (.mv (.t 0))⟩, ⟨(some 10), none, (.len (.t 9))⟩, ⟨(some 11), none, (.bin .eql (.t 10) (.c (.int .i64 0)))⟩]) (.cond (.t 11) (.seq (.ops [⟨(some 12), none, (.mv (.t 1))⟩, ⟨(some 13), none, (.call false 58 [(.t 12)])⟩, ⟨(some 4), none, (.mv (.t 13))⟩, ⟨(some 5), none, (.mv (.c (.bool true)))⟩]) .ret) .skip)) (.seq (.seq (.ops [⟨(some 14), none, (.mv (.t 1))⟩, ⟨(some 15), none, (.len (.t 14))⟩, ⟨(some 16), none, (.bin .eql (.t 15) (.c (.int .i64 0)))⟩]) (.cond (.t 16) (.seq (.ops [⟨(some 17), none, (.mv (.t 0))⟩, ⟨(some 18), none, (.call false 58 [(.t 17)])⟩, ⟨(some 4), none, (.mv (.t 18))⟩, ⟨(some 5), none, (.mv (.c (.bool true)))⟩]) .ret) .skip)) (.seq (.ops [⟨(some 6), none, (.mv (.c .e0))⟩]) (.seq (.seq (.ops [⟨(some 19), none, (.mv (.t 0))⟩, ⟨(some 20), none, (.len (.t 19))⟩, ⟨(some 21), none, (.mv (.c (.int .i64 0)))⟩]) (.block 0 (.loop (.seq (.ops [⟨(some 22), none, (.bin .lss (.t 21) (.t 20))⟩]) (.seq (.cond (.t 22) .skip (.exit 0)) (.seq (.block 1 (.seq (.ops [⟨(some 23), none, (.ix 1 (.t 19) (.t 21))⟩, ⟨(some 24), none, (.ld false 1 (.t 23))⟩, ⟨(some 8), none, (.mv (.t 24))⟩]) (.seq (.ops [⟨(some 25), none, (.mv (.t 1))⟩, ⟨(some 26), none, (.mv (.t 8))⟩, ⟨(some 27), none, (.call false 35 [(.t 25), (.t 26)])⟩]) (.cond (.t 27) (.ops [⟨(some 28), none, (.mv (.t 6))⟩, ⟨(some 29), none, (.mv (.t 8))⟩, ⟨(some 30), none, (.buildSl 9 1 1 [(.str [])] [(0, (.t 29))])⟩, ⟨(some 31), none, (.app 9 1 16 (.t 28) (.t 30))⟩, ⟨(some 6), none, (.mv (.t 31))⟩]) .skip)))) (.ops [⟨(some 32), none, (.bin .add (.t 21) (.c (.int .i64 1)))⟩, ⟨(some 21), none, (.mv (.t 32))⟩]))))))) (.seq (.ops [⟨(some 33), none, (.mv (.t 6))⟩, ⟨(some 34), none, (.mv (.t 6))⟩, ⟨(some 35), none, (.len (.t 34))⟩, ⟨(some 36), none, (.bin .gtr (.t 35) (.c (.int .i64 0)))⟩, ⟨(some 4), none, (.mv (.t 33))⟩, ⟨(some 5), none, (.mv (.t 36))⟩]) .ret))))))
theorem tr43 : Try.f43.body.bind (trCode Try.prog) = some (strip ac43) := by kernel_rfl
theorem spec43 (u v : List (List UInt8)) (ha : u.length ≤ 400) (hb : v.length ≤ 400) : Spec Try.prog 43 [.fz (.sl 1 (u.map encS)), .fz (.sl 1 (v.map encS))] (.fz (.tup [.sl 1 ((bothE u v).1.map encS), .bool (bothE u v).2])) := by
  refine spec_at (n := 35) (ars := [(.t 4), (.t 5)]) (ac := ac43) Try.func43 (by kernel_rfl) (by kernel_rfl) tr43 (by kernel_rfl) ?_
  unfold ac43
  have ha1 : u.length ≤ 1000 := by omega
  have hb1 : v.length ≤ 1000 := by omega
  by_cases ha0 : u = []
  case pos =>
    have hbe : bothE u v = (v, true) := by simp [bothE, ha0]
    have hla : (u.length : Int) = 0 := by rw [ha0]; rfl
    clear ha0
    iterate 30 (all_goals (try (first
      | ((with_reducible refine of_kSpec ?_); refine call_ow (spec58 u ha1) rfl ?_)
      | ((with_reducible refine of_kSpec ?_); refine call_ow (spec58 v hb1) rfl ?_)
      | (with_reducible refine ite_in (fun _ => ?_) (fun _ => ?_))
      | (with_reducible refine ⟨fun _ => ?_, fun _ => ?_⟩)
      | (with_reducible refine And.intro ?_ ?_)
      | (with_reducible intro _)
      | (with_reducible exact is_in _)
      | (simp -implicitDefEqProofs only [SD, SF, SL, e_nf, reduceCtorEq, implies_true, ↓reduceIte, Nat.reduceEqDiff, Nat.reduceAdd, Nat.reduceMul, Nat.reduceSub, Nat.reduceLeDiff, Nat.reduceLT, Int.reduceLT, Int.reduceLE, Int.reduceEq, Int.reduceToNat, Int.reduceAdd, Int.reduceSub, Int.reduceNeg, Int.reduceBEq, Int.reduceBNe, Nat.reduceBEq, Int.cast_ofNat_Int, decide_true, decide_false, ne_eq, eq_self_iff_true, beq_eq_false_iff_ne, bne_iff_ne, List.replicate, *]))))
    all_goals (first | (simp_all; done) | exact .inl rfl)
  have hla : ¬ ((u.length : Int) = 0) := by rw [len0]; exact ha0
  by_cases hb0 : v = []
  case pos =>
    have hbe : bothE u v = (u, true) := by simp [bothE, ha0, hb0]
    have hlb : (v.length : Int) = 0 := by rw [hb0]; rfl
    clear hb0
    iterate 30 (all_goals (try (first
      | ((with_reducible refine of_kSpec ?_); refine call_ow (spec58 u ha1) rfl ?_)
      | ((with_reducible refine of_kSpec ?_); refine call_ow (spec58 v hb1) rfl ?_)
      | (with_reducible refine ite_in (fun _ => ?_) (fun _ => ?_))
      | (with_reducible refine ⟨fun _ => ?_, fun _ => ?_⟩)
      | (with_reducible refine And.intro ?_ ?_)
      | (with_reducible intro _)
      | (with_reducible exact is_in _)
      | (simp -implicitDefEqProofs only [SD, SF, SL, e_nf, reduceCtorEq, implies_true, ↓reduceIte, Nat.reduceEqDiff, Nat.reduceAdd, Nat.reduceMul, Nat.reduceSub, Nat.reduceLeDiff, Nat.reduceLT, Int.reduceLT, Int.reduceLE, Int.reduceEq, Int.reduceToNat, Int.reduceAdd, Int.reduceSub, Int.reduceNeg, Int.reduceBEq, Int.reduceBNe, Nat.reduceBEq, Int.cast_ofNat_Int, decide_true, decide_false, ne_eq, eq_self_iff_true, beq_eq_false_iff_ne, bne_iff_ne, List.replicate, *]))))
    all_goals (first | (simp_all; done) | exact .inl rfl)
  have hlb : ¬ ((v.length : Int) = 0) := by rw [len0]; exact hb0
  iterate 12 (all_goals (try (first
    | (with_reducible refine ite_in (fun _ => ?_) (fun _ => ?_))
    | (with_reducible refine ⟨fun _ => ?_, fun _ => ?_⟩)
    | (with_reducible refine And.intro ?_ ?_)
    | (with_reducible intro _)
    | (with_reducible exact is_in _)
    | (simp -implicitDefEqProofs only [SD, SF, SL, e_nf, reduceCtorEq, implies_true, ↓reduceIte, Nat.reduceEqDiff, Nat.reduceAdd, Nat.reduceMul, Nat.reduceSub, Nat.reduceLeDiff, Nat.reduceLT, Int.reduceLT, Int.reduceLE, Int.reduceEq, Int.reduceToNat, Int.reduceAdd, Int.reduceSub, Int.reduceNeg, Int.reduceBEq, Int.reduceBNe, Nat.reduceBEq, Int.cast_ofNat_Int, decide_true, decide_false, ne_eq, eq_self_iff_true, beq_eq_false_iff_ne, bne_iff_ne, List.replicate, *]))))
  refine loop_r (X := List (List UInt8) × List (List UInt8) × (DV × List (Nat × Blk))) (fun n x => u = x.1 ++ x.2.1 ∧ n = x.2.1.length ∧ ((inB x.1 v = [] ∧ x.2.2 = (DV.e0, [])) ∨ x.2.2 = (DV.ow 31, [(31, Blk.vec 9 1 ((inB x.1 v).map encS))]))) (fun x => [(21, .int .i64 x.1.length), (6, x.2.2.1)]) (fun x => x.2.2.2) [8, 22, 23, 24, 25, 26, 27, 28, 29, 30, 31, 32] [30, 31] [30] (u).length ([], u, (DV.e0, [])) ⟨rfl, rfl, by exact .inl ⟨rfl, rfl⟩⟩ ?_ ?_
  · simp -implicitDefEqProofs only [SD, SF, SL, e_nf, reduceCtorEq, implies_true, ↓reduceIte, Nat.reduceEqDiff, Nat.reduceAdd, Nat.reduceMul, Nat.reduceSub, Nat.reduceLeDiff, Nat.reduceLT, Int.reduceLT, Int.reduceLE, Int.reduceEq, Int.reduceToNat, Int.reduceAdd, Int.reduceSub, Int.reduceNeg, Int.reduceBEq, Int.reduceBNe, Nat.reduceBEq, Int.cast_ofNat_Int, decide_true, decide_false, ne_eq, eq_self_iff_true, beq_eq_false_iff_ne, bne_iff_ne, List.replicate, encS] <;> simp
  · rintro n ⟨pre, rest, a⟩ ⟨he, rfl, hI⟩
    dsimp only at he hI
    cases rest with
    | nil =>
      obtain rfl : u = pre := by simpa using he
      clear he
      have hlt : ¬ (((u).length : Int) < ((u).length : Int)) := Int.lt_irrefl _
      rcases hI with ⟨hl0, rfl⟩ | rfl
      all_goals try replace hl0 := Hd.mk hl0
      iterate 30 (all_goals (try (first
        | ((with_reducible refine of_kSpec ?_); refine call_fz (spec35 v _) rfl ?_)
        | (with_reducible refine ite_in (fun _ => ?_) (fun _ => ?_))
        | (with_reducible refine ⟨fun _ => ?_, fun _ => ?_⟩)
        | (with_reducible refine And.intro ?_ ?_)
        | (with_reducible intro _)
        | (with_reducible exact is_in _)
        | (simp -implicitDefEqProofs only [SD, SF, SL, e_nf, reduceCtorEq, implies_true, ↓reduceIte, Nat.reduceEqDiff, Nat.reduceAdd, Nat.reduceMul, Nat.reduceSub, Nat.reduceLeDiff, Nat.reduceLT, Int.reduceLT, Int.reduceLE, Int.reduceEq, Int.reduceToNat, Int.reduceAdd, Int.reduceSub, Int.reduceNeg, Int.reduceBEq, Int.reduceBNe, Nat.reduceBEq, Int.cast_ofNat_Int, decide_true, decide_false, ne_eq, eq_self_iff_true, beq_eq_false_iff_ne, bne_iff_ne, List.replicate, encS, *]))))
      all_goals (first | decide | (simp only [maxLen, List.length_append, List.length_map, List.length_cons, List.length_nil] <;> omega) | omega | (have hl := hl0.out; simp [bothE, ha0, hb0, hl]; done) | (simp [bothE, ha0, hb0, len1, dec_len]; done) | (simp [bothE, ha0, hb0, len1, dec_len3]; done) | (simp [bothE, ha0, hb0]; omega) | (simp_all [bothE, len1]; done))

    | cons x rest =>
      have hlt := cut_lt he
      have hx := cutD encS he
      simp only [encS] at hx
      have hw := wrap_len (n := pre.length) (m := (u).length) (cut_lt' he) (by simp only [maxLen]; omega)
      replace he := Hd.mk he
      have hz1 := cut_lt' he.out
      have hlo := inB_len pre v
      have hz2 : (inB pre v).length + 1 ≤ maxLen := by simp only [maxLen]; omega
      have hz3 : ((inB pre v).length + 1) * 16 ≤ 140737488355328 := by omega
      have hsn := inB_snoc pre x v
      rcases hI with ⟨hp0, rfl⟩ | rfl
      all_goals try replace hp0 := Hd.mk hp0
      iterate 30 (all_goals (try (first
        | ((with_reducible refine back_in rest.length [8, 22, 23, 24, 25, 26, 27, 28, 29, 30, 31, 32] [30] (pre ++ [x], rest, (DV.e0, [])) ?_ ⟨?_, ?_, ?_⟩ ?_)
           · simp
           · exact cut_snoc he.out
           · rfl
           · first | (left; refine ⟨?_, rfl⟩; rw [hsn, if_neg (by assumption)]; exact hp0.out) | (right; rw [hsn, if_neg (by assumption)]) | (right; rw [hsn, if_pos (by assumption), List.map_append]; rfl) | (right; rw [hsn, if_pos (by assumption), hp0.out]; rfl)
           · first | (simp -implicitDefEqProofs only [SD, SF, SL, e_nf, reduceCtorEq, implies_true, ↓reduceIte, Nat.reduceEqDiff, Nat.reduceAdd, Nat.reduceMul, Nat.reduceSub, Nat.reduceLeDiff, Nat.reduceLT, Int.reduceLT, Int.reduceLE, Int.reduceEq, Int.reduceToNat, Int.reduceAdd, Int.reduceSub, Int.reduceNeg, Int.reduceBEq, Int.reduceBNe, Nat.reduceBEq, Int.cast_ofNat_Int, decide_true, decide_false, ne_eq, eq_self_iff_true, beq_eq_false_iff_ne, bne_iff_ne, List.replicate, encS] <;> simp <;> done) | (simp -implicitDefEqProofs only [SD, SF, SL, e_nf, reduceCtorEq, implies_true, ↓reduceIte, Nat.reduceEqDiff, Nat.reduceAdd, Nat.reduceMul, Nat.reduceSub, Nat.reduceLeDiff, Nat.reduceLT, Int.reduceLT, Int.reduceLE, Int.reduceEq, Int.reduceToNat, Int.reduceAdd, Int.reduceSub, Int.reduceNeg, Int.reduceBEq, Int.reduceBNe, Nat.reduceBEq, Int.cast_ofNat_Int, decide_true, decide_false, ne_eq, eq_self_iff_true, beq_eq_false_iff_ne, bne_iff_ne, List.replicate, encS, *] <;> simp_all <;> done))
        | ((with_reducible refine back_in rest.length [8, 22, 23, 24, 25, 26, 27, 28, 29, 30, 31, 32] [30] (pre ++ [x], rest, (DV.ow 31, [(31, Blk.vec 9 1 ((inB pre v).map encS))])) ?_ ⟨?_, ?_, ?_⟩ ?_)
           · simp
           · exact cut_snoc he.out
           · rfl
           · first | (left; refine ⟨?_, rfl⟩; rw [hsn, if_neg (by assumption)]; exact hp0.out) | (right; rw [hsn, if_neg (by assumption)]) | (right; rw [hsn, if_pos (by assumption), List.map_append]; rfl) | (right; rw [hsn, if_pos (by assumption), hp0.out]; rfl)
           · first | (simp -implicitDefEqProofs only [SD, SF, SL, e_nf, reduceCtorEq, implies_true, ↓reduceIte, Nat.reduceEqDiff, Nat.reduceAdd, Nat.reduceMul, Nat.reduceSub, Nat.reduceLeDiff, Nat.reduceLT, Int.reduceLT, Int.reduceLE, Int.reduceEq, Int.reduceToNat, Int.reduceAdd, Int.reduceSub, Int.reduceNeg, Int.reduceBEq, Int.reduceBNe, Nat.reduceBEq, Int.cast_ofNat_Int, decide_true, decide_false, ne_eq, eq_self_iff_true, beq_eq_false_iff_ne, bne_iff_ne, List.replicate, encS] <;> simp <;> done) | (simp -implicitDefEqProofs only [SD, SF, SL, e_nf, reduceCtorEq, implies_true, ↓reduceIte, Nat.reduceEqDiff, Nat.reduceAdd, Nat.reduceMul, Nat.reduceSub, Nat.reduceLeDiff, Nat.reduceLT, Int.reduceLT, Int.reduceLE, Int.reduceEq, Int.reduceToNat, Int.reduceAdd, Int.reduceSub, Int.reduceNeg, Int.reduceBEq, Int.reduceBNe, Nat.reduceBEq, Int.cast_ofNat_Int, decide_true, decide_false, ne_eq, eq_self_iff_true, beq_eq_false_iff_ne, bne_iff_ne, List.replicate, encS, *] <;> simp_all <;> done))
        | ((with_reducible refine back_in rest.length [8, 22, 23, 24, 25, 26, 27, 28, 29, 30, 31, 32] [30] (pre ++ [x], rest, (DV.ow 31, [(31, Blk.vec 9 1 ((inB pre v).map encS ++ [encS x]))])) ?_ ⟨?_, ?_, ?_⟩ ?_)
           · simp
           · exact cut_snoc he.out
           · rfl
           · first | (left; refine ⟨?_, rfl⟩; rw [hsn, if_neg (by assumption)]; exact hp0.out) | (right; rw [hsn, if_neg (by assumption)]) | (right; rw [hsn, if_pos (by assumption), List.map_append]; rfl) | (right; rw [hsn, if_pos (by assumption), hp0.out]; rfl)
           · first | (simp -implicitDefEqProofs only [SD, SF, SL, e_nf, reduceCtorEq, implies_true, ↓reduceIte, Nat.reduceEqDiff, Nat.reduceAdd, Nat.reduceMul, Nat.reduceSub, Nat.reduceLeDiff, Nat.reduceLT, Int.reduceLT, Int.reduceLE, Int.reduceEq, Int.reduceToNat, Int.reduceAdd, Int.reduceSub, Int.reduceNeg, Int.reduceBEq, Int.reduceBNe, Nat.reduceBEq, Int.cast_ofNat_Int, decide_true, decide_false, ne_eq, eq_self_iff_true, beq_eq_false_iff_ne, bne_iff_ne, List.replicate, encS] <;> simp <;> done) | (simp -implicitDefEqProofs only [SD, SF, SL, e_nf, reduceCtorEq, implies_true, ↓reduceIte, Nat.reduceEqDiff, Nat.reduceAdd, Nat.reduceMul, Nat.reduceSub, Nat.reduceLeDiff, Nat.reduceLT, Int.reduceLT, Int.reduceLE, Int.reduceEq, Int.reduceToNat, Int.reduceAdd, Int.reduceSub, Int.reduceNeg, Int.reduceBEq, Int.reduceBNe, Nat.reduceBEq, Int.cast_ofNat_Int, decide_true, decide_false, ne_eq, eq_self_iff_true, beq_eq_false_iff_ne, bne_iff_ne, List.replicate, encS, *] <;> simp_all <;> done))
        | ((with_reducible refine back_in rest.length [8, 22, 23, 24, 25, 26, 27, 28, 29, 30, 31, 32] [30] (pre ++ [x], rest, (DV.ow 31, [(31, Blk.vec 9 1 ([encS x]))])) ?_ ⟨?_, ?_, ?_⟩ ?_)
           · simp
           · exact cut_snoc he.out
           · rfl
           · first | (left; refine ⟨?_, rfl⟩; rw [hsn, if_neg (by assumption)]; exact hp0.out) | (right; rw [hsn, if_neg (by assumption)]) | (right; rw [hsn, if_pos (by assumption), List.map_append]; rfl) | (right; rw [hsn, if_pos (by assumption), hp0.out]; rfl)
           · first | (simp -implicitDefEqProofs only [SD, SF, SL, e_nf, reduceCtorEq, implies_true, ↓reduceIte, Nat.reduceEqDiff, Nat.reduceAdd, Nat.reduceMul, Nat.reduceSub, Nat.reduceLeDiff, Nat.reduceLT, Int.reduceLT, Int.reduceLE, Int.reduceEq, Int.reduceToNat, Int.reduceAdd, Int.reduceSub, Int.reduceNeg, Int.reduceBEq, Int.reduceBNe, Nat.reduceBEq, Int.cast_ofNat_Int, decide_true, decide_false, ne_eq, eq_self_iff_true, beq_eq_false_iff_ne, bne_iff_ne, List.replicate, encS] <;> simp <;> done) | (simp -implicitDefEqProofs only [SD, SF, SL, e_nf, reduceCtorEq, implies_true, ↓reduceIte, Nat.reduceEqDiff, Nat.reduceAdd, Nat.reduceMul, Nat.reduceSub, Nat.reduceLeDiff, Nat.reduceLT, Int.reduceLT, Int.reduceLE, Int.reduceEq, Int.reduceToNat, Int.reduceAdd, Int.reduceSub, Int.reduceNeg, Int.reduceBEq, Int.reduceBNe, Nat.reduceBEq, Int.cast_ofNat_Int, decide_true, decide_false, ne_eq, eq_self_iff_true, beq_eq_false_iff_ne, bne_iff_ne, List.replicate, encS, *] <;> simp_all <;> done))
        | ((with_reducible refine of_kSpec ?_); refine call_fz (spec35 v _) rfl ?_)
        | (with_reducible refine ite_in (fun _ => ?_) (fun _ => ?_))
        | (with_reducible refine ⟨fun _ => ?_, fun _ => ?_⟩)
        | (with_reducible refine And.intro ?_ ?_)
        | (with_reducible intro _)
        | (with_reducible exact is_in _)
        | (simp -implicitDefEqProofs only [SD, SF, SL, e_nf, reduceCtorEq, implies_true, ↓reduceIte, Nat.reduceEqDiff, Nat.reduceAdd, Nat.reduceMul, Nat.reduceSub, Nat.reduceLeDiff, Nat.reduceLT, Int.reduceLT, Int.reduceLE, Int.reduceEq, Int.reduceToNat, Int.reduceAdd, Int.reduceSub, Int.reduceNeg, Int.reduceBEq, Int.reduceBNe, Nat.reduceBEq, Int.cast_ofNat_Int, decide_true, decide_false, ne_eq, eq_self_iff_true, beq_eq_false_iff_ne, bne_iff_ne, List.replicate, encS, *]))))
      all_goals (first | decide | (simp only [maxLen, List.length_append, List.length_map, List.length_cons, List.length_nil] <;> omega) | omega | (have hl := hl0.out; simp [bothE, ha0, hb0, hl]; done) | (simp [bothE, ha0, hb0, len1, dec_len]; done) | (simp [bothE, ha0, hb0, len1, dec_len3]; done) | (simp [bothE, ha0, hb0]; omega) | (simp_all [bothE, len1]; done))
def ac46 : AC := (.seq (.ops [⟨(some 4), none, (.mv (.c .e0))⟩, ⟨(some 5), none, (.mv (.c (.bool false)))⟩]) (.seq (.seq (.ops [⟨(some 8), none, (.mv (.t 0))⟩, ⟨(some 9), none, (.len (.t 8))⟩, ⟨(some 10), none, (.bin .eql (.t 9) (.c (.int .i64 0)))⟩]) (.cond (.t 10) (.seq (.ops [⟨(some 11), none, (.mv (.t 1))⟩, ⟨(some 4), none, (.mv (.t 11))⟩, ⟨(some 5), none, (.mv (.c (.bool true)))⟩]) .ret) .skip)) (.seq (.seq (.ops [⟨(some 12), none, (.mv (.t 1))⟩, ⟨(some 13), none, (.len (.t 12))⟩, ⟨(some 14), none, (.bin .eql (.t 13) (.c (.int .i64 0)))⟩]) (.cond (.t 14) (.seq (.ops [⟨(some 15), none, (.mv (.t 0))⟩, ⟨(some 4), none, (.mv (.t 15))⟩, ⟨(some 5), none, (.mv (.c (.bool true)))⟩]) .ret) .skip)) (.seq (.ops [⟨(some 16), none, (.buildSl 30 1 0 [(.int .i64 0)] [])⟩, ⟨(some 6), none, (.mv (.t 16))⟩]) (.seq (.seq (.ops [⟨(some 7), none, (.mv (.c (.int .i64 0)))⟩]) (.block 0 (.loop (.seq (.seq (.ops [⟨(some 17), none, (.mv (.t 7))⟩, ⟨(some 18), none, (.mv (.t 0))⟩, ⟨(some 19), none, (.len (.t 18))⟩, ⟨(some 20), none, (.bin .lss (.t 17) (.t 19))⟩]) (.cond (.t 20) .skip (.exit 0))) (.seq (.block 1 (.seq (.ops [⟨(some 23), none, (.mv (.t 1))⟩, ⟨(some 24), none, (.mv (.t 0))⟩, ⟨(some 25), none, (.mv (.t 7))⟩, ⟨(some 26), none, (.ix 1 (.t 24) (.t 25))⟩, ⟨(some 27), none, (.ld false 1 (.t 26))⟩, ⟨(some 28), none, (.call false 36 [(.t 23), (.t 27)])⟩]) (.cond (.t 28) (.ops [⟨(some 29), none, (.mv (.t 6))⟩, ⟨(some 30), none, (.mv (.t 0))⟩, ⟨(some 31), none, (.mv (.t 7))⟩, ⟨(some 32), none, (.ix 1 (.t 30) (.t 31))⟩, ⟨(some 33), none, (.ld false 1 (.t 32))⟩, ⟨(some 34), none, (.buildSl 30 1 1 [(.int .i64 0)] [(0, (.t 33))])⟩, ⟨(some 35), none, (.app 30 1 8 (.t 29) (.t 34))⟩, ⟨(some 6), none, (.mv (.t 35))⟩]) .skip))) (.ops [⟨(some 21), none, (.mv (.t 7))⟩, ⟨(some 22), none, (.bin .add (.t 21) (.c (.int .i64 1)))⟩, ⟨(some 7), none, (.mv (.t 22))⟩])))))) (.seq (.ops [⟨(some 36), none, (.mv (.t 6))⟩, ⟨(some 37), none, (.mv (.t 6))⟩, ⟨(some 38), none, (.len (.t 37))⟩, ⟨(some 39), none, (.bin .gtr (.t 38) (.c (.int .i64 0)))⟩, ⟨(some 4), none, (.mv (.t 36))⟩, ⟨(some 5), none, (.mv (.t 39))⟩]) .ret))))))
theorem tr46 : Try.f46.body.bind (trCode Try.prog) = some (strip ac46) := by kernel_rfl
theorem spec46 (u v : List Int) (ha : u.length ≤ 400) (hb : v.length ≤ 400) : Spec Try.prog 46 [.fz (.sl 1 (u.map encN)), .fz (.sl 1 (v.map encN))] (.fz (.tup [.sl 1 ((bothE u v).1.map encN), .bool (bothE u v).2])) := by
  refine spec_at (n := 38) (ars := [(.t 4), (.t 5)]) (ac := ac46) Try.func46 (by kernel_rfl) (by kernel_rfl) tr46 (by kernel_rfl) ?_
  unfold ac46
  have ha1 : u.length ≤ 1000 := by omega
  have hb1 : v.length ≤ 1000 := by omega
  by_cases ha0 : u = []
  case pos =>
    have hbe : bothE u v = (v, true) := by simp [bothE, ha0]
    have hla : (u.length : Int) = 0 := by rw [ha0]; rfl
    clear ha0
    iterate 30 (all_goals (try (first
      | (with_reducible refine ite_in (fun _ => ?_) (fun _ => ?_))
      | (with_reducible refine ⟨fun _ => ?_, fun _ => ?_⟩)
      | (with_reducible refine And.intro ?_ ?_)
      | (with_reducible intro _)
      | (with_reducible exact is_in _)
      | (simp -implicitDefEqProofs only [SD, SF, SL, e_nf, reduceCtorEq, implies_true, ↓reduceIte, Nat.reduceEqDiff, Nat.reduceAdd, Nat.reduceMul, Nat.reduceSub, Nat.reduceLeDiff, Nat.reduceLT, Int.reduceLT, Int.reduceLE, Int.reduceEq, Int.reduceToNat, Int.reduceAdd, Int.reduceSub, Int.reduceNeg, Int.reduceBEq, Int.reduceBNe, Nat.reduceBEq, Int.cast_ofNat_Int, decide_true, decide_false, ne_eq, eq_self_iff_true, beq_eq_false_iff_ne, bne_iff_ne, List.replicate, *]))))
    all_goals (first | (simp_all; done) | exact .inl rfl)
  have hla : ¬ ((u.length : Int) = 0) := by rw [len0]; exact ha0
  by_cases hb0 : v = []
  case pos =>
    have hbe : bothE u v = (u, true) := by simp [bothE, ha0, hb0]
    have hlb : (v.length : Int) = 0 := by rw [hb0]; rfl
    clear hb0
    iterate 30 (all_goals (try (first
      | (with_reducible refine ite_in (fun _ => ?_) (fun _ => ?_))
      | (with_reducible refine ⟨fun _ => ?_, fun _ => ?_⟩)
      | (with_reducible refine And.intro ?_ ?_)
      | (with_reducible intro _)
      | (with_reducible exact is_in _)
      | (simp -implicitDefEqProofs only [SD, SF, SL, e_nf, reduceCtorEq, implies_true, ↓reduceIte, Nat.reduceEqDiff, Nat.reduceAdd, Nat.reduceMul, Nat.reduceSub, Nat.reduceLeDiff, Nat.reduceLT, Int.reduceLT, Int.reduceLE, Int.reduceEq, Int.reduceToNat, Int.reduceAdd, Int.reduceSub, Int.reduceNeg, Int.reduceBEq, Int.reduceBNe, Nat.reduceBEq, Int.cast_ofNat_Int, decide_true, decide_false, ne_eq, eq_self_iff_true, beq_eq_false_iff_ne, bne_iff_ne, List.replicate, *]))))
    all_goals (first | (simp_all; done) | exact .inl rfl)
  have hlb : ¬ ((v.length : Int) = 0) := by rw [len0]; exact hb0
  iterate 12 (all_goals (try (first
    | (with_reducible refine ite_in (fun _ => ?_) (fun _ => ?_))
    | (with_reducible refine ⟨fun _ => ?_, fun _ => ?_⟩)
    | (with_reducible refine And.intro ?_ ?_)
    | (with_reducible intro _)
    | (with_reducible exact is_in _)
    | (simp -implicitDefEqProofs only [SD, SF, SL, e_nf, reduceCtorEq, implies_true, ↓reduceIte, Nat.reduceEqDiff, Nat.reduceAdd, Nat.reduceMul, Nat.reduceSub, Nat.reduceLeDiff, Nat.reduceLT, Int.reduceLT, Int.reduceLE, Int.reduceEq, Int.reduceToNat, Int.reduceAdd, Int.reduceSub, Int.reduceNeg, Int.reduceBEq, Int.reduceBNe, Nat.reduceBEq, Int.cast_ofNat_Int, decide_true, decide_false, ne_eq, eq_self_iff_true, beq_eq_false_iff_ne, bne_iff_ne, List.replicate, *]))))
  refine loop_r (X := List Int × List Int × (DV × List (Nat × Blk))) (fun n x => u = x.1 ++ x.2.1 ∧ n = x.2.1.length ∧ ((inB x.1 v = [] ∧ x.2.2 = (DV.ow 16, [(16, Blk.vec 30 1 [])])) ∨ x.2.2 = (DV.ow 35, [(35, Blk.vec 30 1 ((inB x.1 v).map encN))]))) (fun x => [(7, .int .i64 x.1.length), (6, x.2.2.1)]) (fun x => x.2.2.2) [17, 18, 19, 20, 21, 22, 23, 24, 25, 26, 27, 28, 29, 30, 31, 32, 33, 34, 35] [34, 35, 16] [34] (u).length ([], u, (DV.ow 16, [(16, Blk.vec 30 1 [])])) ⟨rfl, rfl, by exact .inl ⟨rfl, rfl⟩⟩ ?_ ?_
  · simp -implicitDefEqProofs only [SD, SF, SL, e_nf, reduceCtorEq, implies_true, ↓reduceIte, Nat.reduceEqDiff, Nat.reduceAdd, Nat.reduceMul, Nat.reduceSub, Nat.reduceLeDiff, Nat.reduceLT, Int.reduceLT, Int.reduceLE, Int.reduceEq, Int.reduceToNat, Int.reduceAdd, Int.reduceSub, Int.reduceNeg, Int.reduceBEq, Int.reduceBNe, Nat.reduceBEq, Int.cast_ofNat_Int, decide_true, decide_false, ne_eq, eq_self_iff_true, beq_eq_false_iff_ne, bne_iff_ne, List.replicate, encN] <;> simp
  · rintro n ⟨pre, rest, a⟩ ⟨he, rfl, hI⟩
    dsimp only at he hI
    cases rest with
    | nil =>
      obtain rfl : u = pre := by simpa using he
      clear he
      have hlt : ¬ (((u).length : Int) < ((u).length : Int)) := Int.lt_irrefl _
      rcases hI with ⟨hl0, rfl⟩ | rfl
      all_goals try replace hl0 := Hd.mk hl0
      iterate 30 (all_goals (try (first
        | ((with_reducible refine of_kSpec ?_); refine call_fz (spec36 v _) rfl ?_)
        | (with_reducible refine ite_in (fun _ => ?_) (fun _ => ?_))
        | (with_reducible refine ⟨fun _ => ?_, fun _ => ?_⟩)
        | (with_reducible refine And.intro ?_ ?_)
        | (with_reducible intro _)
        | (with_reducible exact is_in _)
        | (simp -implicitDefEqProofs only [SD, SF, SL, e_nf, reduceCtorEq, implies_true, ↓reduceIte, Nat.reduceEqDiff, Nat.reduceAdd, Nat.reduceMul, Nat.reduceSub, Nat.reduceLeDiff, Nat.reduceLT, Int.reduceLT, Int.reduceLE, Int.reduceEq, Int.reduceToNat, Int.reduceAdd, Int.reduceSub, Int.reduceNeg, Int.reduceBEq, Int.reduceBNe, Nat.reduceBEq, Int.cast_ofNat_Int, decide_true, decide_false, ne_eq, eq_self_iff_true, beq_eq_false_iff_ne, bne_iff_ne, List.replicate, encN, *]))))
      all_goals (first | decide | (simp only [maxLen, List.length_append, List.length_map, List.length_cons, List.length_nil] <;> omega) | omega | (have hl := hl0.out; simp [bothE, ha0, hb0, hl]; done) | (simp [bothE, ha0, hb0, len1, dec_len]; done) | (simp [bothE, ha0, hb0, len1, dec_len3]; done) | (simp [bothE, ha0, hb0]; omega) | (simp_all [bothE, len1]; done))

    | cons x rest =>
      have hlt := cut_lt he
      have hx := cutD encN he
      simp only [encN] at hx
      simp -implicitDefEqProofs only [SD, SF, SL, e_nf, reduceCtorEq, implies_true, ↓reduceIte, Nat.reduceEqDiff, Nat.reduceAdd, Nat.reduceMul, Nat.reduceSub, Nat.reduceLeDiff, Nat.reduceLT, Int.reduceLT, Int.reduceLE, Int.reduceEq, Int.reduceToNat, Int.reduceAdd, Int.reduceSub, Int.reduceNeg, Int.reduceBEq, Int.reduceBNe, Nat.reduceBEq, Int.cast_ofNat_Int, decide_true, decide_false, ne_eq, eq_self_iff_true, beq_eq_false_iff_ne, bne_iff_ne, List.replicate, encN, hlt]
      intro hl
      have hw := wrap_len (n := pre.length) (m := (u).length) (cut_lt' he) (by simp only [maxLen]; omega)
      replace he := Hd.mk he
      have hz1 := cut_lt' he.out
      have hlo := inB_len pre v
      have hz2 : (inB pre v).length + 1 ≤ maxLen := by simp only [maxLen]; omega
      have hz3 : ((inB pre v).length + 1) * 8 ≤ 140737488355328 := by omega
      have hsn := inB_snoc pre x v
      rcases hI with ⟨hp0, rfl⟩ | rfl
      all_goals try replace hp0 := Hd.mk hp0
      iterate 30 (all_goals (try (first
        | ((with_reducible refine back_in rest.length [17, 18, 19, 20, 21, 22, 23, 24, 25, 26, 27, 28, 29, 30, 31, 32, 33, 34, 35] [34] (pre ++ [x], rest, (DV.ow 16, [(16, Blk.vec 30 1 [])])) ?_ ⟨?_, ?_, ?_⟩ ?_)
           · simp
           · exact cut_snoc he.out
           · rfl
           · first | (left; refine ⟨?_, rfl⟩; rw [hsn, if_neg (by assumption)]; exact hp0.out) | (right; rw [hsn, if_neg (by assumption)]) | (right; rw [hsn, if_pos (by assumption), List.map_append]; rfl) | (right; rw [hsn, if_pos (by assumption), hp0.out]; rfl)
           · first | (simp -implicitDefEqProofs only [SD, SF, SL, e_nf, reduceCtorEq, implies_true, ↓reduceIte, Nat.reduceEqDiff, Nat.reduceAdd, Nat.reduceMul, Nat.reduceSub, Nat.reduceLeDiff, Nat.reduceLT, Int.reduceLT, Int.reduceLE, Int.reduceEq, Int.reduceToNat, Int.reduceAdd, Int.reduceSub, Int.reduceNeg, Int.reduceBEq, Int.reduceBNe, Nat.reduceBEq, Int.cast_ofNat_Int, decide_true, decide_false, ne_eq, eq_self_iff_true, beq_eq_false_iff_ne, bne_iff_ne, List.replicate, encN] <;> simp <;> done) | (simp -implicitDefEqProofs only [SD, SF, SL, e_nf, reduceCtorEq, implies_true, ↓reduceIte, Nat.reduceEqDiff, Nat.reduceAdd, Nat.reduceMul, Nat.reduceSub, Nat.reduceLeDiff, Nat.reduceLT, Int.reduceLT, Int.reduceLE, Int.reduceEq, Int.reduceToNat, Int.reduceAdd, Int.reduceSub, Int.reduceNeg, Int.reduceBEq, Int.reduceBNe, Nat.reduceBEq, Int.cast_ofNat_Int, decide_true, decide_false, ne_eq, eq_self_iff_true, beq_eq_false_iff_ne, bne_iff_ne, List.replicate, encN, *] <;> simp_all <;> done))
        | ((with_reducible refine back_in rest.length [17, 18, 19, 20, 21, 22, 23, 24, 25, 26, 27, 28, 29, 30, 31, 32, 33, 34, 35] [34] (pre ++ [x], rest, (DV.ow 35, [(35, Blk.vec 30 1 ((inB pre v).map encN))])) ?_ ⟨?_, ?_, ?_⟩ ?_)
           · simp
           · exact cut_snoc he.out
           · rfl
           · first | (left; refine ⟨?_, rfl⟩; rw [hsn, if_neg (by assumption)]; exact hp0.out) | (right; rw [hsn, if_neg (by assumption)]) | (right; rw [hsn, if_pos (by assumption), List.map_append]; rfl) | (right; rw [hsn, if_pos (by assumption), hp0.out]; rfl)
           · first | (simp -implicitDefEqProofs only [SD, SF, SL, e_nf, reduceCtorEq, implies_true, ↓reduceIte, Nat.reduceEqDiff, Nat.reduceAdd, Nat.reduceMul, Nat.reduceSub, Nat.reduceLeDiff, Nat.reduceLT, Int.reduceLT, Int.reduceLE, Int.reduceEq, Int.reduceToNat, Int.reduceAdd, Int.reduceSub, Int.reduceNeg, Int.reduceBEq, Int.reduceBNe, Nat.reduceBEq, Int.cast_ofNat_Int, decide_true, decide_false, ne_eq, eq_self_iff_true, beq_eq_false_iff_ne, bne_iff_ne, List.replicate, encN] <;> simp <;> done) | (simp -implicitDefEqProofs only [SD, SF, SL, e_nf, reduceCtorEq, implies_true, ↓reduceIte, Nat.reduceEqDiff, Nat.reduceAdd, Nat.reduceMul, Nat.reduceSub, Nat.reduceLeDiff, Nat.reduceLT, Int.reduceLT, Int.reduceLE, Int.reduceEq, Int.reduceToNat, Int.reduceAdd, Int.reduceSub, Int.reduceNeg, Int.reduceBEq, Int.reduceBNe, Nat.reduceBEq, Int.cast_ofNat_Int, decide_true, decide_false, ne_eq, eq_self_iff_true, beq_eq_false_iff_ne, bne_iff_ne, List.replicate, encN, *] <;> simp_all <;> done))
        | ((with_reducible refine back_in rest.length [17, 18, 19, 20, 21, 22, 23, 24, 25, 26, 27, 28, 29, 30, 31, 32, 33, 34, 35] [34] (pre ++ [x], rest, (DV.ow 35, [(35, Blk.vec 30 1 ((inB pre v).map encN ++ [encN x]))])) ?_ ⟨?_, ?_, ?_⟩ ?_)
           · simp
           · exact cut_snoc he.out
           · rfl
           · first | (left; refine ⟨?_, rfl⟩; rw [hsn, if_neg (by assumption)]; exact hp0.out) | (right; rw [hsn, if_neg (by assumption)]) | (right; rw [hsn, if_pos (by assumption), List.map_append]; rfl) | (right; rw [hsn, if_pos (by assumption), hp0.out]; rfl)
           · first | (simp -implicitDefEqProofs only [SD, SF, SL, e_nf, reduceCtorEq, implies_true, ↓reduceIte, Nat.reduceEqDiff, Nat.reduceAdd, Nat.reduceMul, Nat.reduceSub, Nat.reduceLeDiff, Nat.reduceLT, Int.reduceLT, Int.reduceLE, Int.reduceEq, Int.reduceToNat, Int.reduceAdd, Int.reduceSub, Int.reduceNeg, Int.reduceBEq, Int.reduceBNe, Nat.reduceBEq, Int.cast_ofNat_Int, decide_true, decide_false, ne_eq, eq_self_iff_true, beq_eq_false_iff_ne, bne_iff_ne, List.replicate, encN] <;> simp <;> done) | (simp -implicitDefEqProofs only [SD, SF, SL, e_nf, reduceCtorEq, implies_true, ↓reduceIte, Nat.reduceEqDiff, Nat.reduceAdd, Nat.reduceMul, Nat.reduceSub, Nat.reduceLeDiff, Nat.reduceLT, Int.reduceLT, Int.reduceLE, Int.reduceEq, Int.reduceToNat, Int.reduceAdd, Int.reduceSub, Int.reduceNeg, Int.reduceBEq, Int.reduceBNe, Nat.reduceBEq, Int.cast_ofNat_Int, decide_true, decide_false, ne_eq, eq_self_iff_true, beq_eq_false_iff_ne, bne_iff_ne, List.replicate, encN, *] <;> simp_all <;> done))
        | ((with_reducible refine back_in rest.length [17, 18, 19, 20, 21, 22, 23, 24, 25, 26, 27, 28, 29, 30, 31, 32, 33, 34, 35] [34] (pre ++ [x], rest, (DV.ow 35, [(35, Blk.vec 30 1 ([encN x]))])) ?_ ⟨?_, ?_, ?_⟩ ?_)
           · simp
           · exact cut_snoc he.out
           · rfl
           · first | (left; refine ⟨?_, rfl⟩; rw [hsn, if_neg (by assumption)]; exact hp0.out) | (right; rw [hsn, if_neg (by assumption)]) | (right; rw [hsn, if_pos (by assumption), List.map_append]; rfl) | (right; rw [hsn, if_pos (by assumption), hp0.out]; rfl)
           · first | (simp -implicitDefEqProofs only [SD, SF, SL, e_nf, reduceCtorEq, implies_true, ↓reduceIte, Nat.reduceEqDiff, Nat.reduceAdd, Nat.reduceMul, Nat.reduceSub, Nat.reduceLeDiff, Nat.reduceLT, Int.reduceLT, Int.reduceLE, Int.reduceEq, Int.reduceToNat, Int.reduceAdd, Int.reduceSub, Int.reduceNeg, Int.reduceBEq, Int.reduceBNe, Nat.reduceBEq, Int.cast_ofNat_Int, decide_true, decide_false, ne_eq, eq_self_iff_true, beq_eq_false_iff_ne, bne_iff_ne, List.replicate, encN] <;> simp <;> done) | (simp -implicitDefEqProofs only [SD, SF, SL, e_nf, reduceCtorEq, implies_true, ↓reduceIte, Nat.reduceEqDiff, Nat.reduceAdd, Nat.reduceMul, Nat.reduceSub, Nat.reduceLeDiff, Nat.reduceLT, Int.reduceLT, Int.reduceLE, Int.reduceEq, Int.reduceToNat, Int.reduceAdd, Int.reduceSub, Int.reduceNeg, Int.reduceBEq, Int.reduceBNe, Nat.reduceBEq, Int.cast_ofNat_Int, decide_true, decide_false, ne_eq, eq_self_iff_true, beq_eq_false_iff_ne, bne_iff_ne, List.replicate, encN, *] <;> simp_all <;> done))
        | ((with_reducible refine of_kSpec ?_); refine call_fz (spec36 v _) rfl ?_)
        | (with_reducible refine ite_in (fun _ => ?_) (fun _ => ?_))
        | (with_reducible refine ⟨fun _ => ?_, fun _ => ?_⟩)
        | (with_reducible refine And.intro ?_ ?_)
        | (with_reducible intro _)
        | (with_reducible exact is_in _)
        | (simp -implicitDefEqProofs only [SD, SF, SL, e_nf, reduceCtorEq, implies_true, ↓reduceIte, Nat.reduceEqDiff, Nat.reduceAdd, Nat.reduceMul, Nat.reduceSub, Nat.reduceLeDiff, Nat.reduceLT, Int.reduceLT, Int.reduceLE, Int.reduceEq, Int.reduceToNat, Int.reduceAdd, Int.reduceSub, Int.reduceNeg, Int.reduceBEq, Int.reduceBNe, Nat.reduceBEq, Int.cast_ofNat_Int, decide_true, decide_false, ne_eq, eq_self_iff_true, beq_eq_false_iff_ne, bne_iff_ne, List.replicate, encN, *]))))
      all_goals (first | decide | (simp only [maxLen, List.length_append, List.length_map, List.length_cons, List.length_nil] <;> omega) | omega | (have hl := hl0.out; simp [bothE, ha0, hb0, hl]; done) | (simp [bothE, ha0, hb0, len1, dec_len]; done) | (simp [bothE, ha0, hb0, len1, dec_len3]; done) | (simp [bothE, ha0, hb0]; omega) | (simp_all [bothE, len1]; done))
def ac47 : AC := (.seq (.ops [⟨(some 4), none, (.mv (.c .e0))⟩, ⟨(some 5), none, (.mv (.c (.bool false)))⟩]) (.seq (.seq (.ops [⟨(some 8), none, (.mv (.t 0))⟩, ⟨(some 9), none, (.len (.t 8))⟩, ⟨(some 10), none, (.bin .eql (.t 9) (.c (.int .i64 0)))⟩]) (.cond (.t 10) (.seq (.ops [⟨(some 11), none, (.mv (.t 1))⟩, ⟨(some 4), none, (.mv (.t 11))⟩, ⟨(some 5), none, (.mv (.c (.bool true)))⟩]) .ret) .skip)) (.seq (.seq (.ops [⟨(some 12), none, (.mv (.t 1))⟩, ⟨(some 13), none, (.len (.t 12))⟩, ⟨(some 14), none, (.bin .eql (.t 13) (.c (.int .i64 0)))⟩]) (.cond (.t 14) (.seq (.ops [⟨(some 15), none, (.mv (.t 0))⟩, ⟨(some 4), none, (.mv (.t 15))⟩, ⟨(some 5), none, (.mv (.c (.bool true)))⟩]) .ret) .skip)) (.seq (.ops [⟨(some 16), none, (.buildSl 9 1 0 [(.str [])] [])⟩, ⟨(some 6), none, (.mv (.t 16))⟩]) (.seq (.seq (.ops [⟨(some 7), none, (.mv (.c (.int .i64 0)))⟩]) (.block 0 (.loop (.seq (.seq (.ops [⟨(some 17), none, (.mv (.t 7))⟩, ⟨(some 18), none, (.mv (.t 0))⟩, ⟨(some 19), none, (.len (.t 18))⟩, ⟨(some 20), none, (.bin .lss (.t 17) (.t 19))⟩]) (.cond (.t 20) .skip (.exit 0))) (.seq (.block 1 (.seq (.ops [⟨(some 23), none, (.mv (.t 1))⟩, ⟨(some 24), none, (.mv (.t 0))⟩, ⟨(some 25), none, (.mv (.t 7))⟩, ⟨(some 26), none, (.ix 1 (.t 24) (.t 25))⟩, ⟨(some 27), none, (.ld false 1 (.t 26))⟩, ⟨(some 28), none, (.call false 33 [(.t 23), (.t 27)])⟩]) (.cond (.t 28) (.ops [⟨(some 29), none, (.mv (.t 6))⟩, ⟨(some 30), none, (.mv (.t 0))⟩, ⟨(some 31), none, (.mv (.t 7))⟩, ⟨(some 32), none, (.ix 1 (.t 30) (.t 31))⟩, ⟨(some 33), none, (.ld false 1 (.t 32))⟩, ⟨(some 34), none, (.buildSl 9 1 1 [(.str [])] [(0, (.t 33))])⟩, ⟨(some 35), none, (.app 9 1 16 (.t 29) (.t 34))⟩, ⟨(some 6), none, (.mv (.t 35))⟩]) .skip))) (.ops [⟨(some 21), none, (.mv (.t 7))⟩, ⟨(some 22), none, (.bin .add (.t 21) (.c (.int .i64 1)))⟩, ⟨(some 7), none, (.mv (.t 22))⟩])))))) (.seq (.ops [⟨(some 36), none, (.mv (.t 6))⟩, ⟨(some 37), none, (.mv (.t 6))⟩, ⟨(some 38), none, (.len (.t 37))⟩, ⟨(some 39), none, (.bin .gtr (.t 38) (.c (.int .i64 0)))⟩, ⟨(some 4), none, (.mv (.t 36))⟩, ⟨(some 5), none, (.mv (.t 39))⟩]) .ret))))))
theorem tr47 : Try.f47.body.bind (trCode Try.prog) = some (strip ac47) := by kernel_rfl
theorem spec47 (u v : List (List UInt8)) (ha : u.length ≤ 400) (hb : v.length ≤ 400) : Spec Try.prog 47 [.fz (.sl 1 (u.map encS)), .fz (.sl 1 (v.map encS))] (.fz (.tup [.sl 1 ((bothE u v).1.map encS), .bool (bothE u v).2])) := by
  refine spec_at (n := 38) (ars := [(.t 4), (.t 5)]) (ac := ac47) Try.func47 (by kernel_rfl) (by kernel_rfl) tr47 (by kernel_rfl) ?_
  unfold ac47
  have ha1 : u.length ≤ 1000 := by omega
  have hb1 : v.length ≤ 1000 := by omega
  by_cases ha0 : u = []
  case pos =>
    have hbe : bothE u v = (v, true) := by simp [bothE, ha0]
    have hla : (u.length : Int) = 0 := by rw [ha0]; rfl
    clear ha0
    iterate 30 (all_goals (try (first
      | (with_reducible refine ite_in (fun _ => ?_) (fun _ => ?_))
      | (with_reducible refine ⟨fun _ => ?_, fun _ => ?_⟩)
      | (with_reducible refine And.intro ?_ ?_)
      | (with_reducible intro _)
      | (with_reducible exact is_in _)
      | (simp -implicitDefEqProofs only [SD, SF, SL, e_nf, reduceCtorEq, implies_true, ↓reduceIte, Nat.reduceEqDiff, Nat.reduceAdd, Nat.reduceMul, Nat.reduceSub, Nat.reduceLeDiff, Nat.reduceLT, Int.reduceLT, Int.reduceLE, Int.reduceEq, Int.reduceToNat, Int.reduceAdd, Int.reduceSub, Int.reduceNeg, Int.reduceBEq, Int.reduceBNe, Nat.reduceBEq, Int.cast_ofNat_Int, decide_true, decide_false, ne_eq, eq_self_iff_true, beq_eq_false_iff_ne, bne_iff_ne, List.replicate, *]))))
    all_goals (first | (simp_all; done) | exact .inl rfl)
  have hla : ¬ ((u.length : Int) = 0) := by rw [len0]; exact ha0
  by_cases hb0 : v = []
  case pos =>
    have hbe : bothE u v = (u, true) := by simp [bothE, ha0, hb0]
    have hlb : (v.length : Int) = 0 := by rw [hb0]; rfl
    clear hb0
    iterate 30 (all_goals (try (first
      | (with_reducible refine ite_in (fun _ => ?_) (fun _ => ?_))
      | (with_reducible refine ⟨fun _ => ?_, fun _ => ?_⟩)
      | (with_reducible refine And.intro ?_ ?_)
      | (with_reducible intro _)
      | (with_reducible exact is_in _)
      | (simp -implicitDefEqProofs only [SD, SF, SL, e_nf, reduceCtorEq, implies_true, ↓reduceIte, Nat.reduceEqDiff, Nat.reduceAdd, Nat.reduceMul, Nat.reduceSub, Nat.reduceLeDiff, Nat.reduceLT, Int.reduceLT, Int.reduceLE, Int.reduceEq, Int.reduceToNat, Int.reduceAdd, Int.reduceSub, Int.reduceNeg, Int.reduceBEq, Int.reduceBNe, Nat.reduceBEq, Int.cast_ofNat_Int, decide_true, decide_false, ne_eq, eq_self_iff_true, beq_eq_false_iff_ne, bne_iff_ne, List.replicate, *]))))
    all_goals (first | (simp_all; done) | exact .inl rfl)
  have hlb : ¬ ((v.length : Int) = 0) := by rw [len0]; exact hb0
  iterate 12 (all_goals (try (first
    | (with_reducible refine ite_in (fun _ => ?_) (fun _ => ?_))
    | (with_reducible refine ⟨fun _ => ?_, fun _ => ?_⟩)
    | (with_reducible refine And.intro ?_ ?_)
    | (with_reducible intro _)
    | (with_reducible exact is_in _)
    | (simp -implicitDefEqProofs only [SD, SF, SL, e_nf, reduceCtorEq, implies_true, ↓reduceIte, Nat.reduceEqDiff, Nat.reduceAdd, Nat.reduceMul, Nat.reduceSub, Nat.reduceLeDiff, Nat.reduceLT, Int.reduceLT, Int.reduceLE, Int.reduceEq, Int.reduceToNat, Int.reduceAdd, Int.reduceSub, Int.reduceNeg, Int.reduceBEq, Int.reduceBNe, Nat.reduceBEq, Int.cast_ofNat_Int, decide_true, decide_false, ne_eq, eq_self_iff_true, beq_eq_false_iff_ne, bne_iff_ne, List.replicate, *]))))
  refine loop_r (X := List (List UInt8) × List (List UInt8) × (DV × List (Nat × Blk))) (fun n x => u = x.1 ++ x.2.1 ∧ n = x.2.1.length ∧ ((inB x.1 v = [] ∧ x.2.2 = (DV.ow 16, [(16, Blk.vec 9 1 [])])) ∨ x.2.2 = (DV.ow 35, [(35, Blk.vec 9 1 ((inB x.1 v).map encS))]))) (fun x => [(7, .int .i64 x.1.length), (6, x.2.2.1)]) (fun x => x.2.2.2) [17, 18, 19, 20, 21, 22, 23, 24, 25, 26, 27, 28, 29, 30, 31, 32, 33, 34, 35] [34, 35, 16] [34] (u).length ([], u, (DV.ow 16, [(16, Blk.vec 9 1 [])])) ⟨rfl, rfl, by exact .inl ⟨rfl, rfl⟩⟩ ?_ ?_
  · simp -implicitDefEqProofs only [SD, SF, SL, e_nf, reduceCtorEq, implies_true, ↓reduceIte, Nat.reduceEqDiff, Nat.reduceAdd, Nat.reduceMul, Nat.reduceSub, Nat.reduceLeDiff, Nat.reduceLT, Int.reduceLT, Int.reduceLE, Int.reduceEq, Int.reduceToNat, Int.reduceAdd, Int.reduceSub, Int.reduceNeg, Int.reduceBEq, Int.reduceBNe, Nat.reduceBEq, Int.cast_ofNat_Int, decide_true, decide_false, ne_eq, eq_self_iff_true, beq_eq_false_iff_ne, bne_iff_ne, List.replicate, encS] <;> simp
  · rintro n ⟨pre, rest, a⟩ ⟨he, rfl, hI⟩
    dsimp only at he hI
    cases rest with
    | nil =>
      obtain rfl : u = pre := by simpa using he
      clear he
      have hlt : ¬ (((u).length : Int) < ((u).length : Int)) := Int.lt_irrefl _
      rcases hI with ⟨hl0, rfl⟩ | rfl
      all_goals try replace hl0 := Hd.mk hl0
      iterate 30 (all_goals (try (first
        | ((with_reducible refine of_kSpec ?_); refine call_fz (spec33 v _) rfl ?_)
        | (with_reducible refine ite_in (fun _ => ?_) (fun _ => ?_))
        | (with_reducible refine ⟨fun _ => ?_, fun _ => ?_⟩)
        | (with_reducible refine And.intro ?_ ?_)
        | (with_reducible intro _)
        | (with_reducible exact is_in _)
        | (simp -implicitDefEqProofs only [SD, SF, SL, e_nf, reduceCtorEq, implies_true, ↓reduceIte, Nat.reduceEqDiff, Nat.reduceAdd, Nat.reduceMul, Nat.reduceSub, Nat.reduceLeDiff, Nat.reduceLT, Int.reduceLT, Int.reduceLE, Int.reduceEq, Int.reduceToNat, Int.reduceAdd, Int.reduceSub, Int.reduceNeg, Int.reduceBEq, Int.reduceBNe, Nat.reduceBEq, Int.cast_ofNat_Int, decide_true, decide_false, ne_eq, eq_self_iff_true, beq_eq_false_iff_ne, bne_iff_ne, List.replicate, encS, *]))))
      all_goals (first | decide | (simp only [maxLen, List.length_append, List.length_map, List.length_cons, List.length_nil] <;> omega) | omega | (have hl := hl0.out; simp [bothE, ha0, hb0, hl]; done) | (simp [bothE, ha0, hb0, len1, dec_len]; done) | (simp [bothE, ha0, hb0, len1, dec_len3]; done) | (simp [bothE, ha0, hb0]; omega) | (simp_all [bothE, len1]; done))

    | cons x rest =>
      have hlt := cut_lt he
      have hx := cutD encS he
      simp only [encS] at hx
      simp -implicitDefEqProofs only [SD, SF, SL, e_nf, reduceCtorEq, implies_true, ↓reduceIte, Nat.reduceEqDiff, Nat.reduceAdd, Nat.reduceMul, Nat.reduceSub, Nat.reduceLeDiff, Nat.reduceLT, Int.reduceLT, Int.reduceLE, Int.reduceEq, Int.reduceToNat, Int.reduceAdd, Int.reduceSub, Int.reduceNeg, Int.reduceBEq, Int.reduceBNe, Nat.reduceBEq, Int.cast_ofNat_Int, decide_true, decide_false, ne_eq, eq_self_iff_true, beq_eq_false_iff_ne, bne_iff_ne, List.replicate, encS, hlt]
      intro hl
      have hw := wrap_len (n := pre.length) (m := (u).length) (cut_lt' he) (by simp only [maxLen]; omega)
      replace he := Hd.mk he
      have hz1 := cut_lt' he.out
      have hlo := inB_len pre v
      have hz2 : (inB pre v).length + 1 ≤ maxLen := by simp only [maxLen]; omega
      have hz3 : ((inB pre v).length + 1) * 16 ≤ 140737488355328 := by omega
      have hsn := inB_snoc pre x v
      rcases hI with ⟨hp0, rfl⟩ | rfl
      all_goals try replace hp0 := Hd.mk hp0
      iterate 30 (all_goals (try (first
        | ((with_reducible refine back_in rest.length [17, 18, 19, 20, 21, 22, 23, 24, 25, 26, 27, 28, 29, 30, 31, 32, 33, 34, 35] [34] (pre ++ [x], rest, (DV.ow 16, [(16, Blk.vec 9 1 [])])) ?_ ⟨?_, ?_, ?_⟩ ?_)
           · simp
           · exact cut_snoc he.out
           · rfl
           · first | (left; refine ⟨?_, rfl⟩; rw [hsn, if_neg (by assumption)]; exact hp0.out) | (right; rw [hsn, if_neg (by assumption)]) | (right; rw [hsn, if_pos (by assumption), List.map_append]; rfl) | (right; rw [hsn, if_pos (by assumption), hp0.out]; rfl)
           · first | (simp -implicitDefEqProofs only [SD, SF, SL, e_nf, reduceCtorEq, implies_true, ↓reduceIte, Nat.reduceEqDiff, Nat.reduceAdd, Nat.reduceMul, Nat.reduceSub, Nat.reduceLeDiff, Nat.reduceLT, Int.reduceLT, Int.reduceLE, Int.reduceEq, Int.reduceToNat, Int.reduceAdd, Int.reduceSub, Int.reduceNeg, Int.reduceBEq, Int.reduceBNe, Nat.reduceBEq, Int.cast_ofNat_Int, decide_true, decide_false, ne_eq, eq_self_iff_true, beq_eq_false_iff_ne, bne_iff_ne, List.replicate, encS] <;> simp <;> done) | (simp -implicitDefEqProofs only [SD, SF, SL, e_nf, reduceCtorEq, implies_true, ↓reduceIte, Nat.reduceEqDiff, Nat.reduceAdd, Nat.reduceMul, Nat.reduceSub, Nat.reduceLeDiff, Nat.reduceLT, Int.reduceLT, Int.reduceLE, Int.reduceEq, Int.reduceToNat, Int.reduceAdd, Int.reduceSub, Int.reduceNeg, Int.reduceBEq, Int.reduceBNe, Nat.reduceBEq, Int.cast_ofNat_Int, decide_true, decide_false, ne_eq, eq_self_iff_true, beq_eq_false_iff_ne, bne_iff_ne, List.replicate, encS, *] <;> simp_all <;> done))
        | ((with_reducible refine back_in rest.length [17, 18, 19, 20, 21, 22, 23, 24, 25, 26, 27, 28, 29, 30, 31, 32, 33, 34, 35] [34] (pre ++ [x], rest, (DV.ow 35, [(35, Blk.vec 9 1 ((inB pre v).map encS))])) ?_ ⟨?_, ?_, ?_⟩ ?_)
           · simp
           · exact cut_snoc he.out
           · rfl
           · first | (left; refine ⟨?_, rfl⟩; rw [hsn, if_neg (by assumption)]; exact hp0.out) | (right; rw [hsn, if_neg (by assumption)]) | (right; rw [hsn, if_pos (by assumption), List.map_append]; rfl) | (right; rw [hsn, if_pos (by assumption), hp0.out]; rfl)
           · first | (simp -implicitDefEqProofs only [SD, SF, SL, e_nf, reduceCtorEq, implies_true, ↓reduceIte, Nat.reduceEqDiff, Nat.reduceAdd, Nat.reduceMul, Nat.reduceSub, Nat.reduceLeDiff, Nat.reduceLT, Int.reduceLT, Int.reduceLE, Int.reduceEq, Int.reduceToNat, Int.reduceAdd, Int.reduceSub, Int.reduceNeg, Int.reduceBEq, Int.reduceBNe, Nat.reduceBEq, Int.cast_ofNat_Int, decide_true, decide_false, ne_eq, eq_self_iff_true, beq_eq_false_iff_ne, bne_iff_ne, List.replicate, encS] <;> simp <;> done) | (simp -implicitDefEqProofs only [SD, SF, SL, e_nf, reduceCtorEq, implies_true, ↓reduceIte, Nat.reduceEqDiff, Nat.reduceAdd, Nat.reduceMul, Nat.reduceSub, Nat.reduceLeDiff, Nat.reduceLT, Int.reduceLT, Int.reduceLE, Int.reduceEq, Int.reduceToNat, Int.reduceAdd, Int.reduceSub, Int.reduceNeg, Int.reduceBEq, Int.reduceBNe, Nat.reduceBEq, Int.cast_ofNat_Int, decide_true, decide_false, ne_eq, eq_self_iff_true, beq_eq_false_iff_ne, bne_iff_ne, List.replicate, encS, *] <;> simp_all <;> done))
        | ((with_reducible refine back_in rest.length [17, 18, 19, 20, 21, 22, 23, 24, 25, 26, 27, 28, 29, 30, 31, 32, 33, 34, 35] [34] (pre ++ [x], rest, (DV.ow 35, [(35, Blk.vec 9 1 ((inB pre v).map encS ++ [encS x]))])) ?_ ⟨?_, ?_, ?_⟩ ?_)
           · simp
           · exact cut_snoc he.out
           · rfl
           · first | (left; refine ⟨?_, rfl⟩; rw [hsn, if_neg (by assumption)]; exact hp0.out) | (right; rw [hsn, if_neg (by assumption)]) | (right; rw [hsn, if_pos (by assumption), List.map_append]; rfl) | (right; rw [hsn, if_pos (by assumption), hp0.out]; rfl)
           · first | (simp -implicitDefEqProofs only [SD, SF, SL, e_nf, reduceCtorEq, implies_true, ↓reduceIte, Nat.reduceEqDiff, Nat.reduceAdd, Nat.reduceMul, Nat.reduceSub, Nat.reduceLeDiff, Nat.reduceLT, Int.reduceLT, Int.reduceLE, Int.reduceEq, Int.reduceToNat, Int.reduceAdd, Int.reduceSub, Int.reduceNeg, Int.reduceBEq, Int.reduceBNe, Nat.reduceBEq, Int.cast_ofNat_Int, decide_true, decide_false, ne_eq, eq_self_iff_true, beq_eq_false_iff_ne, bne_iff_ne, List.replicate, encS] <;> simp <;> done) | (simp -implicitDefEqProofs only [SD, SF, SL, e_nf, reduceCtorEq, implies_true, ↓reduceIte, Nat.reduceEqDiff, Nat.reduceAdd, Nat.reduceMul, Nat.reduceSub, Nat.reduceLeDiff, Nat.reduceLT, Int.reduceLT, Int.reduceLE, Int.reduceEq, Int.reduceToNat, Int.reduceAdd, Int.reduceSub, Int.reduceNeg, Int.reduceBEq, Int.reduceBNe, Nat.reduceBEq, Int.cast_ofNat_Int, decide_true, decide_false, ne_eq, eq_self_iff_true, beq_eq_false_iff_ne, bne_iff_ne, List.replicate, encS, *] <;> simp_all <;> done))
        | ((with_reducible refine back_in rest.length [17, 18, 19, 20, 21, 22, 23, 24, 25, 26, 27, 28, 29, 30, 31, 32, 33, 34, 35] [34] (pre ++ [x], rest, (DV.ow 35, [(35, Blk.vec 9 1 ([encS x]))])) ?_ ⟨?_, ?_, ?_⟩ ?_)
           · simp
           · exact cut_snoc he.out
           · rfl
           · first | (left; refine ⟨?_, rfl⟩; rw [hsn, if_neg (by assumption)]; exact hp0.out) | (right; rw [hsn, if_neg (by assumption)]) | (right; rw [hsn, if_pos (by assumption), List.map_append]; rfl) | (right; rw [hsn, if_pos (by assumption), hp0.out]; rfl)
           · first | (simp -implicitDefEqProofs only [SD, SF, SL, e_nf, reduceCtorEq, implies_true, ↓reduceIte, Nat.reduceEqDiff, Nat.reduceAdd, Nat.reduceMul, Nat.reduceSub, Nat.reduceLeDiff, Nat.reduceLT, Int.reduceLT, Int.reduceLE, Int.reduceEq, Int.reduceToNat, Int.reduceAdd, Int.reduceSub, Int.reduceNeg, Int.reduceBEq, Int.reduceBNe, Nat.reduceBEq, Int.cast_ofNat_Int, decide_true, decide_false, ne_eq, eq_self_iff_true, beq_eq_false_iff_ne, bne_iff_ne, List.replicate, encS] <;> simp <;> done) | (simp -implicitDefEqProofs only [SD, SF, SL, e_nf, reduceCtorEq, implies_true, ↓reduceIte, Nat.reduceEqDiff, Nat.reduceAdd, Nat.reduceMul, Nat.reduceSub, Nat.reduceLeDiff, Nat.reduceLT, Int.reduceLT, Int.reduceLE, Int.reduceEq, Int.reduceToNat, Int.reduceAdd, Int.reduceSub, Int.reduceNeg, Int.reduceBEq, Int.reduceBNe, Nat.reduceBEq, Int.cast_ofNat_Int, decide_true, decide_false, ne_eq, eq_self_iff_true, beq_eq_false_iff_ne, bne_iff_ne, List.replicate, encS, *] <;> simp_all <;> done))
        | ((with_reducible refine of_kSpec ?_); refine call_fz (spec33 v _) rfl ?_)
        | (with_reducible refine ite_in (fun _ => ?_) (fun _ => ?_))
        | (with_reducible refine ⟨fun _ => ?_, fun _ => ?_⟩)
        | (with_reducible refine And.intro ?_ ?_)
        | (with_reducible intro _)
        | (with_reducible exact is_in _)
        | (simp -implicitDefEqProofs only [SD, SF, SL, e_nf, reduceCtorEq, implies_true, ↓reduceIte, Nat.reduceEqDiff, Nat.reduceAdd, Nat.reduceMul, Nat.reduceSub, Nat.reduceLeDiff, Nat.reduceLT, Int.reduceLT, Int.reduceLE, Int.reduceEq, Int.reduceToNat, Int.reduceAdd, Int.reduceSub, Int.reduceNeg, Int.reduceBEq, Int.reduceBNe, Nat.reduceBEq, Int.cast_ofNat_Int, decide_true, decide_false, ne_eq, eq_self_iff_true, beq_eq_false_iff_ne, bne_iff_ne, List.replicate, encS, *]))))
      all_goals (first | decide | (simp only [maxLen, List.length_append, List.length_map, List.length_cons, List.length_nil] <;> omega) | omega | (have hl := hl0.out; simp [bothE, ha0, hb0, hl]; done) | (simp [bothE, ha0, hb0, len1, dec_len]; done) | (simp [bothE, ha0, hb0, len1, dec_len3]; done) | (simp [bothE, ha0, hb0]; omega) | (simp_all [bothE, len1]; done))

end Go.Proofs.Ytamcbdflmephdaa.E

namespace Go.Proofs.Ytamcbdflmephdaa.E
open Go
set_option maxHeartbeats 4000000
set_option maxRecDepth 100000
set_option linter.unusedSimpArgs false
set_option linter.unusedVariables false
attribute [local congr] c_wp c_ops c_op c_opS c_run c_runS c_dt c_seq c_blk c_loop c_S c_put c_bind c_mv c_pick c_nt c_ng c_bin c_binI c_binS c_beq c_B c_eqa c_hd c_cells c_blkK c_box c_vec c_mp c_nck c_mks c_appn c_mkm c_mput c_mlk c_mrm c_take c_ld c_ldF c_cellsK c_st c_fld c_fldv c_ix c_ixp c_ixv c_ixs c_sub c_subs c_len c_lens c_src c_dst c_ow c_app c_ext c_mm c_conv c_str c_isn c_fill c_rows c_boxo c_frz c_frzO c_frzA c_frzV c_spec c_specO c_opsP c_opP c_runP c_specP c_Z c_qretP c_fz c_fn c_gv c_cond c_res1 c_resL c_ret c_qret c_ite c_unr c_nx c_bk c_cut c_is
attribute [local irreducible] dwp
def ac44 : AC := (.seq (.ops [⟨(some 0), none, (.mv (.c .e0))⟩]) (.seq (.ops [⟨(some 1), none, (.mv (.c .e0))⟩]) (.seq (.seq (.ops [⟨(some 2), none, (.mv (.c (.int .i64 1)))⟩]) (.block 0 (.loop (.seq (.seq (.ops [⟨(some 3), none, (.mv (.t 2))⟩, ⟨(some 4), none, (.bin .leq (.t 3) (.c (.int .i64 14)))⟩]) (.cond (.t 4) .skip (.exit 0))) (.seq (.block 1 (.ops [⟨(some 7), none, (.mv (.t 1))⟩, ⟨(some 8), none, (.mv (.t 2))⟩, ⟨(some 9), none, (.buildSl 30 1 1 [(.int .i64 0)] [(0, (.t 8))])⟩, ⟨(some 10), none, (.app 30 1 8 (.t 7) (.t 9))⟩, ⟨(some 1), none, (.mv (.t 10))⟩])) (.ops [⟨(some 5), none, (.mv (.t 2))⟩, ⟨(some 6), none, (.bin .add (.t 5) (.c (.int .i64 1)))⟩, ⟨(some 2), none, (.mv (.t 6))⟩])))))) (.seq (.ops [⟨(some 11), none, (.mv (.t 1))⟩, ⟨(some 0), none, (.mv (.t 11))⟩]) .ret))))
theorem tr44 : Try.f44.body.bind (trCode Try.prog) = some (strip ac44) := by kernel_rfl
theorem spec44  : Spec Try.prog 44 [] (.fz (.sl 1 (everyL.map encN))) := by
  refine spec_at (n := 12) (ars := [(.t 0)]) (ac := ac44) Try.func44 (by kernel_rfl) (by kernel_rfl) tr44 (by kernel_rfl) ?_
  unfold ac44
  have hv1 : IntKind.i64.wrap 1 = 1 := by decide
  have hv2 : IntKind.i64.wrap 2 = 2 := by decide
  have hv3 : IntKind.i64.wrap 3 = 3 := by decide
  have hv4 : IntKind.i64.wrap 4 = 4 := by decide
  have hv5 : IntKind.i64.wrap 5 = 5 := by decide
  have hv6 : IntKind.i64.wrap 6 = 6 := by decide
  have hv7 : IntKind.i64.wrap 7 = 7 := by decide
  have hv8 : IntKind.i64.wrap 8 = 8 := by decide
  have hv9 : IntKind.i64.wrap 9 = 9 := by decide
  have hv10 : IntKind.i64.wrap 10 = 10 := by decide
  have hv11 : IntKind.i64.wrap 11 = 11 := by decide
  have hv12 : IntKind.i64.wrap 12 = 12 := by decide
  have hv13 : IntKind.i64.wrap 13 = 13 := by decide
  have hv14 : IntKind.i64.wrap 14 = 14 := by decide
  have hv15 : IntKind.i64.wrap 15 = 15 := by decide
  iterate 110 (all_goals (try (first
    | (with_reducible refine loop_u 16 ?_)
    | (with_reducible refine unr_next ?_)
    | (with_reducible refine ite_in (fun _ => ?_) (fun _ => ?_))
    | (with_reducible refine ⟨fun _ => ?_, fun _ => ?_⟩)
    | (with_reducible refine And.intro ?_ ?_)
    | (with_reducible intro _)
    | (with_reducible exact is_in _)
    | (simp -implicitDefEqProofs only [SD, SF, SL, e_nf, reduceCtorEq, implies_true, ↓reduceIte, Nat.reduceEqDiff, Nat.reduceAdd, Nat.reduceMul, Nat.reduceSub, Nat.reduceLeDiff, Nat.reduceLT, Int.reduceLT, Int.reduceLE, Int.reduceEq, Int.reduceToNat, Int.reduceAdd, Int.reduceSub, Int.reduceNeg, Int.reduceBEq, Int.reduceBNe, Nat.reduceBEq, Int.cast_ofNat_Int, decide_true, decide_false, ne_eq, eq_self_iff_true, beq_eq_false_iff_ne, bne_iff_ne, List.replicate, *]))))
  all_goals (first | decide | rfl | (simp [everyL, encN]; done))
def ac48 : AC := (.seq (.ops [⟨(some 0), none, (.mv (.c .e0))⟩]) (.seq (.ops [⟨(some 3), none, (.buildSl 30 1 0 [(.int .i64 0)] [])⟩, ⟨(some 1), none, (.mv (.t 3))⟩]) (.seq (.seq (.ops [⟨(some 2), none, (.mv (.c (.int .i64 1)))⟩]) (.block 0 (.loop (.seq (.seq (.ops [⟨(some 4), none, (.mv (.t 2))⟩, ⟨(some 5), none, (.bin .leq (.t 4) (.c (.int .i64 14)))⟩]) (.cond (.t 5) .skip (.exit 0))) (.seq (.block 1 (.ops [⟨(some 8), none, (.mv (.t 1))⟩, ⟨(some 9), none, (.mv (.t 2))⟩, ⟨(some 10), none, (.buildSl 30 1 1 [(.int .i64 0)] [(0, (.t 9))])⟩, ⟨(some 11), none, (.app 30 1 8 (.t 8) (.t 10))⟩, ⟨(some 1), none, (.mv (.t 11))⟩])) (.ops [⟨(some 6), none, (.mv (.t 2))⟩, ⟨(some 7), none, (.bin .add (.t 6) (.c (.int .i64 1)))⟩, ⟨(some 2), none, (.mv (.t 7))⟩])))))) (.seq (.ops [⟨(some 12), none, (.mv (.t 1))⟩, ⟨(some 0), none, (.mv (.t 12))⟩]) .ret))))
theorem tr48 : Try.f48.body.bind (trCode Try.prog) = some (strip ac48) := by kernel_rfl
theorem spec48  : Spec Try.prog 48 [] (.fz (.sl 1 (everyL.map encN))) := by
  refine spec_at (n := 13) (ars := [(.t 0)]) (ac := ac48) Try.func48 (by kernel_rfl) (by kernel_rfl) tr48 (by kernel_rfl) ?_
  unfold ac48
  have hv1 : IntKind.i64.wrap 1 = 1 := by decide
  have hv2 : IntKind.i64.wrap 2 = 2 := by decide
  have hv3 : IntKind.i64.wrap 3 = 3 := by decide
  have hv4 : IntKind.i64.wrap 4 = 4 := by decide
  have hv5 : IntKind.i64.wrap 5 = 5 := by decide
  have hv6 : IntKind.i64.wrap 6 = 6 := by decide
  have hv7 : IntKind.i64.wrap 7 = 7 := by decide
  have hv8 : IntKind.i64.wrap 8 = 8 := by decide
  have hv9 : IntKind.i64.wrap 9 = 9 := by decide
  have hv10 : IntKind.i64.wrap 10 = 10 := by decide
  have hv11 : IntKind.i64.wrap 11 = 11 := by decide
  have hv12 : IntKind.i64.wrap 12 = 12 := by decide
  have hv13 : IntKind.i64.wrap 13 = 13 := by decide
  have hv14 : IntKind.i64.wrap 14 = 14 := by decide
  have hv15 : IntKind.i64.wrap 15 = 15 := by decide
  iterate 110 (all_goals (try (first
    | (with_reducible refine loop_u 16 ?_)
    | (with_reducible refine unr_next ?_)
    | (with_reducible refine ite_in (fun _ => ?_) (fun _ => ?_))
    | (with_reducible refine ⟨fun _ => ?_, fun _ => ?_⟩)
    | (with_reducible refine And.intro ?_ ?_)
    | (with_reducible intro _)
    | (with_reducible exact is_in _)
    | (simp -implicitDefEqProofs only [SD, SF, SL, e_nf, reduceCtorEq, implies_true, ↓reduceIte, Nat.reduceEqDiff, Nat.reduceAdd, Nat.reduceMul, Nat.reduceSub, Nat.reduceLeDiff, Nat.reduceLT, Int.reduceLT, Int.reduceLE, Int.reduceEq, Int.reduceToNat, Int.reduceAdd, Int.reduceSub, Int.reduceNeg, Int.reduceBEq, Int.reduceBNe, Nat.reduceBEq, Int.cast_ofNat_Int, decide_true, decide_false, ne_eq, eq_self_iff_true, beq_eq_false_iff_ne, bne_iff_ne, List.replicate, *]))))
  all_goals (first | decide | rfl | (simp [everyL, encN]; done))

end Go.Proofs.Ytamcbdflmephdaa.E
