/-
  NtD: walks of functions of the program at data level.
-/
import Derived.Test.YtklbfafdioeehaaProg
import Derived.Test.YtklbfafdioeehaaEngZ
import Derived.Test.YtklbfafdioeehaaNtC
import Derived.KernelRfl
set_option linter.unusedVariables false
set_option linter.unusedSimpArgs false
namespace Go.Proofs.Ytklbfafdioeehaa.E
open Go
set_option maxHeartbeats 4000000
set_option maxRecDepth 100000
set_option linter.unusedSimpArgs false
set_option linter.unusedVariables false
attribute [local congr] c_wp c_ops c_op c_opS c_run c_runS c_dt c_seq c_blk c_loop c_S c_put c_bind c_mv c_pick c_nt c_ng c_bin c_binI c_binS c_beq c_B c_eqa c_hd c_cells c_blkK c_box c_vec c_mp c_nck c_mks c_appn c_mkm c_mput c_mlk c_mrm c_take c_ld c_ldF c_cellsK c_st c_fld c_fldv c_ix c_ixp c_ixv c_ixs c_sub c_subs c_len c_lens c_src c_dst c_ow c_app c_ext c_mm c_conv c_str c_isn c_fill c_rows c_boxo c_frz c_frzO c_frzA c_frzV c_spec c_specO c_opsP c_opP c_runP c_specP c_Z c_qretP c_fz c_fn c_gv c_cond c_res1 c_resL c_ret c_qret c_ite c_unr c_nx c_bk c_cut c_is
attribute [local irreducible] dwp
def ac17 : AC := (.seq (.ops [⟨(some 3), none, (.box (.t 0))⟩, ⟨(some 6), none, (.mv (.c (.bool false)))⟩]) (.seq (.ops [⟨(some 7), none, (.ld true 2 (.t 3))⟩, ⟨(some 8), none, (.call false 29 [(.t 7)])⟩, ⟨(some 9), none, (.mv (.t 1))⟩, ⟨(some 10), none, (.mv (.t 2))⟩, ⟨(some 11), none, (.call false 28 [(.t 9), (.t 10)])⟩, ⟨(some 12), none, (.mlk (.ag [.s, .s]) (.bool false) (.t 8) (.t 11))⟩, ⟨(some 13), none, (.nt (.t 12))⟩, ⟨(some 6), none, (.mv (.t 13))⟩]) .ret))
theorem tr17 : Try.f17.body.bind (trCode Try.prog) = some (strip ac17) := by kernel_rfl
theorem spec17 (nw : Ntw) (a b : List UInt8) : Spec Try.prog 17 [.fz (.agg (encNw nw)), .fz (.str a), .fz (.str b)] (.fz (.bool (openB nw.cuts a b))) := by
  refine spec_at (n := 11) (ars := [(.t 6)]) (ac := ac17) Try.func17 (by kernel_rfl) (by kernel_rfl) tr17 (by kernel_rfl) ?_
  unfold ac17
  have hkl := klk_open' nw.cuts a b
  cases ho : openB nw.cuts a b
  all_goals simp [ho] at hkl
  iterate 30 (all_goals (try (first
    | ((with_reducible refine of_kSpec ?_)
       refine call_owm (ds' := [.agg (encNw nw)]) (spec29 nw) rfl ?_ ?_
       · simp -implicitDefEqProofs only [SD, SF, SL, e_nf, reduceCtorEq, implies_true, ↓reduceIte, Nat.reduceEqDiff, Nat.reduceAdd, Nat.reduceMul, Nat.reduceSub, Nat.reduceLeDiff, Nat.reduceLT, Int.reduceLT, Int.reduceLE, Int.reduceEq, Int.reduceToNat, Int.reduceAdd, Int.reduceSub, Int.reduceNeg, Int.reduceBEq, Int.reduceBNe, Nat.reduceBEq, Int.cast_ofNat_Int, decide_true, decide_false, ne_eq, eq_self_iff_true, beq_eq_false_iff_ne, bne_iff_ne, List.replicate, encNw, *]
         done)
    | ((with_reducible refine of_kSpec ?_); refine call_fz (spec28 _ _) rfl ?_)
    | (with_reducible refine ite_in (fun _ => ?_) (fun _ => ?_))
    | (with_reducible refine ⟨fun _ => ?_, fun _ => ?_⟩)
    | (with_reducible refine And.intro ?_ ?_)
    | (with_reducible intro _)
    | (with_reducible exact is_in _)
    | (simp -implicitDefEqProofs only [SD, SF, SL, e_nf, reduceCtorEq, implies_true, ↓reduceIte, Nat.reduceEqDiff, Nat.reduceAdd, Nat.reduceMul, Nat.reduceSub, Nat.reduceLeDiff, Nat.reduceLT, Int.reduceLT, Int.reduceLE, Int.reduceEq, Int.reduceToNat, Int.reduceAdd, Int.reduceSub, Int.reduceNeg, Int.reduceBEq, Int.reduceBNe, Nat.reduceBEq, Int.cast_ofNat_Int, decide_true, decide_false, ne_eq, eq_self_iff_true, beq_eq_false_iff_ne, bne_iff_ne, List.replicate, encNw, encLk, Option.getD_some, Option.getD_none, *]))))
  all_goals (simp_all)
def ac18 : AC := (.seq (.ops [⟨(some 3), none, (.box (.t 0))⟩, ⟨(some 6), none, (.mv (.c (.bool false)))⟩]) (.seq (.seq (.ops [⟨(some 7), none, (.mv (.c (.int .i64 0)))⟩]) (.block 0 (.loop (.seq (.seq (.ops [⟨(some 8), none, (.mv (.t 7))⟩, ⟨(some 9), none, (.fld 1 (.t 3))⟩, ⟨(some 10), none, (.ld false 1 (.t 9))⟩, ⟨(some 11), none, (.len (.t 10))⟩, ⟨(some 12), none, (.bin .lss (.t 8) (.t 11))⟩]) (.cond (.t 12) .skip (.exit 0))) (.seq (.block 1 (.seq (.ops [⟨(some 15), none, (.fld 1 (.t 3))⟩, ⟨(some 16), none, (.ld false 1 (.t 15))⟩, ⟨(some 17), none, (.mv (.t 7))⟩, ⟨(some 18), none, (.ix 2 (.t 16) (.t 17))⟩, ⟨(some 19), none, (.ld true 2 (.t 18))⟩, ⟨(some 20), none, (.mv (.t 1))⟩, ⟨(some 21), none, (.mv (.t 2))⟩, ⟨(some 22), none, (.call false 32 [(.t 19), (.t 20), (.t 21)])⟩]) (.cond (.t 22) (.seq (.ops [⟨(some 6), none, (.mv (.c (.bool false)))⟩]) .ret) .skip))) (.ops [⟨(some 13), none, (.mv (.t 7))⟩, ⟨(some 14), none, (.bin .add (.t 13) (.c (.int .i64 1)))⟩, ⟨(some 7), none, (.mv (.t 14))⟩])))))) (.seq (.ops [⟨(some 6), none, (.mv (.c (.bool true)))⟩]) .ret)))
theorem tr18 : Try.f18.body.bind (trCode Try.prog) = some (strip ac18) := by kernel_rfl
theorem spec18 (nw : Ntw) (u v : List UInt8) : Spec Try.prog 18 [.fz (.agg (encNw nw)), .fz (.str u), .fz (.str v)] (.fz (.bool (openB nw.cuts u v))) := by
  refine spec_at (n := 20) (ars := [(.t 6)]) (ac := ac18) Try.func18 (by kernel_rfl) (by kernel_rfl) tr18 (by kernel_rfl) ?_
  unfold ac18
  simp -implicitDefEqProofs only [SD, SF, SL, e_nf, reduceCtorEq, implies_true, ↓reduceIte, Nat.reduceEqDiff, Nat.reduceAdd, Nat.reduceMul, Nat.reduceSub, Nat.reduceLeDiff, Nat.reduceLT, Int.reduceLT, Int.reduceLE, Int.reduceEq, Int.reduceToNat, Int.reduceAdd, Int.reduceSub, Int.reduceNeg, Int.reduceBEq, Int.reduceBNe, Nat.reduceBEq, Int.cast_ofNat_Int, decide_true, decide_false, ne_eq, eq_self_iff_true, beq_eq_false_iff_ne, bne_iff_ne, List.replicate, encNw]
  refine loop_q (X := List Lk × List Lk × Unit) (fun n x => nw.cuts = x.1 ++ x.2.1 ∧ n = x.2.1.length ∧ (x.1.any (isP u v) = false)) (fun x => [(7, .int .i64 x.1.length)]) (fun _ => []) [6, 8, 9, 10, 11, 12, 13, 14, 15, 16, 17, 18, 19, 20, 21, 22] []  (nw.cuts).length ([], nw.cuts, ()) ⟨rfl, rfl, by first | rfl | exact any_snoc hI (by simp_all)⟩ ?_ ?_
  · simp -implicitDefEqProofs only [SD, SF, SL, e_nf, reduceCtorEq, implies_true, ↓reduceIte, Nat.reduceEqDiff, Nat.reduceAdd, Nat.reduceMul, Nat.reduceSub, Nat.reduceLeDiff, Nat.reduceLT, Int.reduceLT, Int.reduceLE, Int.reduceEq, Int.reduceToNat, Int.reduceAdd, Int.reduceSub, Int.reduceNeg, Int.reduceBEq, Int.reduceBNe, Nat.reduceBEq, Int.cast_ofNat_Int, decide_true, decide_false, ne_eq, eq_self_iff_true, beq_eq_false_iff_ne, bne_iff_ne, List.replicate, encNw] <;> simp
  · rintro n ⟨pre, rest, a⟩ ⟨he, rfl, hI⟩
    dsimp only at he hI
    cases rest with
    | nil =>
      obtain rfl : nw.cuts = pre := by simpa using he
      clear he
      have hlt : ¬ (((nw.cuts).length : Int) < ((nw.cuts).length : Int)) := Int.lt_irrefl _
      iterate 30 (all_goals (try (first
        | ((with_reducible refine of_kSpec ?_)
           refine call_sub (ds' := [.agg (encLk x), .str u, .str v]) (spec32 x u v) rfl ?_ ?_
           · simp -implicitDefEqProofs only [SD, SF, SL, e_nf, reduceCtorEq, implies_true, ↓reduceIte, Nat.reduceEqDiff, Nat.reduceAdd, Nat.reduceMul, Nat.reduceSub, Nat.reduceLeDiff, Nat.reduceLT, Int.reduceLT, Int.reduceLE, Int.reduceEq, Int.reduceToNat, Int.reduceAdd, Int.reduceSub, Int.reduceNeg, Int.reduceBEq, Int.reduceBNe, Nat.reduceBEq, Int.cast_ofNat_Int, decide_true, decide_false, ne_eq, eq_self_iff_true, beq_eq_false_iff_ne, bne_iff_ne, List.replicate, encLk, *]
             done)
        | (with_reducible refine ite_in (fun _ => ?_) (fun _ => ?_))
        | (with_reducible refine ⟨fun _ => ?_, fun _ => ?_⟩)
        | (with_reducible refine And.intro ?_ ?_)
        | (with_reducible intro _)
        | (with_reducible exact is_in _)
        | ((with_reducible refine eq_in ?_); (first | (have hq := any_cut (p := isP u v) he.out (by simp_all); simp_all [openB]; done)); done)
        | (simp -implicitDefEqProofs only [SD, SF, SL, e_nf, reduceCtorEq, implies_true, ↓reduceIte, Nat.reduceEqDiff, Nat.reduceAdd, Nat.reduceMul, Nat.reduceSub, Nat.reduceLeDiff, Nat.reduceLT, Int.reduceLT, Int.reduceLE, Int.reduceEq, Int.reduceToNat, Int.reduceAdd, Int.reduceSub, Int.reduceNeg, Int.reduceBEq, Int.reduceBNe, Nat.reduceBEq, Int.cast_ofNat_Int, decide_true, decide_false, ne_eq, eq_self_iff_true, beq_eq_false_iff_ne, bne_iff_ne, List.replicate, encNw, *]))))
      all_goals (simp_all [openB])

    | cons x rest =>
      have hlt := cut_lt he
      have hx := cutD encLk he
      simp only [encLk] at hx
      simp -implicitDefEqProofs only [SD, SF, SL, e_nf, reduceCtorEq, implies_true, ↓reduceIte, Nat.reduceEqDiff, Nat.reduceAdd, Nat.reduceMul, Nat.reduceSub, Nat.reduceLeDiff, Nat.reduceLT, Int.reduceLT, Int.reduceLE, Int.reduceEq, Int.reduceToNat, Int.reduceAdd, Int.reduceSub, Int.reduceNeg, Int.reduceBEq, Int.reduceBNe, Nat.reduceBEq, Int.cast_ofNat_Int, decide_true, decide_false, ne_eq, eq_self_iff_true, beq_eq_false_iff_ne, bne_iff_ne, List.replicate, encNw, hlt]
      intro hl
      have hw := wrap_len (n := pre.length) (m := (nw.cuts).length) (cut_lt' he) (by simpa using hl)
      replace he := Hd.mk he
      iterate 30 (all_goals (try (first
        | ((with_reducible refine back_in rest.length [6, 8, 9, 10, 11, 12, 13, 14, 15, 16, 17, 18, 19, 20, 21, 22] [] (pre ++ [x], rest, a) ?_ ⟨?_, ?_, ?_⟩ ?_)
           · simp
           · exact cut_snoc he.out
           · rfl
           · first | rfl | exact any_snoc hI (by simp_all)
           · first | (simp -implicitDefEqProofs only [SD, SF, SL, e_nf, reduceCtorEq, implies_true, ↓reduceIte, Nat.reduceEqDiff, Nat.reduceAdd, Nat.reduceMul, Nat.reduceSub, Nat.reduceLeDiff, Nat.reduceLT, Int.reduceLT, Int.reduceLE, Int.reduceEq, Int.reduceToNat, Int.reduceAdd, Int.reduceSub, Int.reduceNeg, Int.reduceBEq, Int.reduceBNe, Nat.reduceBEq, Int.cast_ofNat_Int, decide_true, decide_false, ne_eq, eq_self_iff_true, beq_eq_false_iff_ne, bne_iff_ne, List.replicate, encNw] <;> simp <;> done) | (simp -implicitDefEqProofs only [SD, SF, SL, e_nf, reduceCtorEq, implies_true, ↓reduceIte, Nat.reduceEqDiff, Nat.reduceAdd, Nat.reduceMul, Nat.reduceSub, Nat.reduceLeDiff, Nat.reduceLT, Int.reduceLT, Int.reduceLE, Int.reduceEq, Int.reduceToNat, Int.reduceAdd, Int.reduceSub, Int.reduceNeg, Int.reduceBEq, Int.reduceBNe, Nat.reduceBEq, Int.cast_ofNat_Int, decide_true, decide_false, ne_eq, eq_self_iff_true, beq_eq_false_iff_ne, bne_iff_ne, List.replicate, encNw, *] <;> simp_all <;> done))
        | ((with_reducible refine of_kSpec ?_)
           refine call_sub (ds' := [.agg (encLk x), .str u, .str v]) (spec32 x u v) rfl ?_ ?_
           · simp -implicitDefEqProofs only [SD, SF, SL, e_nf, reduceCtorEq, implies_true, ↓reduceIte, Nat.reduceEqDiff, Nat.reduceAdd, Nat.reduceMul, Nat.reduceSub, Nat.reduceLeDiff, Nat.reduceLT, Int.reduceLT, Int.reduceLE, Int.reduceEq, Int.reduceToNat, Int.reduceAdd, Int.reduceSub, Int.reduceNeg, Int.reduceBEq, Int.reduceBNe, Nat.reduceBEq, Int.cast_ofNat_Int, decide_true, decide_false, ne_eq, eq_self_iff_true, beq_eq_false_iff_ne, bne_iff_ne, List.replicate, encLk, *]
             done)
        | (with_reducible refine ite_in (fun _ => ?_) (fun _ => ?_))
        | (with_reducible refine ⟨fun _ => ?_, fun _ => ?_⟩)
        | (with_reducible refine And.intro ?_ ?_)
        | (with_reducible intro _)
        | (with_reducible exact is_in _)
        | ((with_reducible refine eq_in ?_); (first | (have hq := any_cut (p := isP u v) he.out (by simp_all); simp_all [openB]; done)); done)
        | (simp -implicitDefEqProofs only [SD, SF, SL, e_nf, reduceCtorEq, implies_true, ↓reduceIte, Nat.reduceEqDiff, Nat.reduceAdd, Nat.reduceMul, Nat.reduceSub, Nat.reduceLeDiff, Nat.reduceLT, Int.reduceLT, Int.reduceLE, Int.reduceEq, Int.reduceToNat, Int.reduceAdd, Int.reduceSub, Int.reduceNeg, Int.reduceBEq, Int.reduceBNe, Nat.reduceBEq, Int.cast_ofNat_Int, decide_true, decide_false, ne_eq, eq_self_iff_true, beq_eq_false_iff_ne, bne_iff_ne, List.replicate, encNw, *]))))
def ac27 : AC := (.seq (.ops [⟨(some 2), none, (.mv (.c .e0))⟩]) (.seq (.seq (.ops [⟨(some 3), none, (.mv (.t 0))⟩, ⟨(some 4), none, (.isn false (.t 3))⟩]) (.cond (.t 4) (.seq (.ops [⟨(some 2), none, (.mv (.c .e0))⟩]) .ret) .skip)) (.seq (.ops [⟨(some 5), none, (.buildSl 31 10 0 [(.str []), (.str []), (.int .i64 0), (.int .i64 0), (.str []), .e0, .e0, .e0, (.str []), (.int .i64 0)] [])⟩, ⟨(some 6), none, (.mv (.t 0))⟩, ⟨(some 7), none, (.app 31 10 160 (.t 5) (.t 6))⟩, ⟨(some 2), none, (.mv (.t 7))⟩]) .ret)))
theorem tr27 : Try.f27.body.bind (trCode Try.prog) = some (strip ac27) := by kernel_rfl
theorem spec27 (l : List Pk) (hb : l.length ≤ 100000) : Spec Try.prog 27 [.fz (.sl 10 (l.map encPk))] (.own 31 10 (l.map encPk)) := by
  refine spec_at (n := 7) (ars := [(.t 2)]) (ac := ac27) Try.func27 (by kernel_rfl) (by kernel_rfl) tr27 (by kernel_rfl) ?_
  unfold ac27
  have h1 : l.length ≤ maxLen := by simp only [maxLen]; omega
  have h2 : l.length * 160 ≤ 140737488355328 := by omega
  iterate 30 (all_goals (try (first
    | (with_reducible refine ite_in (fun _ => ?_) (fun _ => ?_))
    | (with_reducible refine ⟨fun _ => ?_, fun _ => ?_⟩)
    | (with_reducible refine And.intro ?_ ?_)
    | (with_reducible intro _)
    | (with_reducible exact is_in _)
    | (simp -implicitDefEqProofs only [SD, SF, SL, e_nf, reduceCtorEq, implies_true, ↓reduceIte, Nat.reduceEqDiff, Nat.reduceAdd, Nat.reduceMul, Nat.reduceSub, Nat.reduceLeDiff, Nat.reduceLT, Int.reduceLT, Int.reduceLE, Int.reduceEq, Int.reduceToNat, Int.reduceAdd, Int.reduceSub, Int.reduceNeg, Int.reduceBEq, Int.reduceBNe, Nat.reduceBEq, Int.cast_ofNat_Int, decide_true, decide_false, ne_eq, eq_self_iff_true, beq_eq_false_iff_ne, bne_iff_ne, List.replicate, *]))))
  all_goals (simp_all)

def idxR (n : Nat) (i : Int) : Nat := (if i.tmod n < 0 then i.tmod n + n else i.tmod n).toNat
theorem idx_facts {n : Nat} (h : n ≠ 0) (hn : n ≤ maxLen) (i : Int) : idxR n i < n ∧ (i.tmod n < 0 → IntKind.i64.wrap (i.tmod n + n) = idxR n i) ∧ (¬ i.tmod n < 0 → i.tmod n = idxR n i) := by
  have h0 : (0 : Int) < n := by omega
  have h1 : i.tmod n < n := Int.tmod_lt_of_pos _ h0
  have h2 : -(n : Int) < i.tmod n := by
    have := Int.tmod_lt_of_pos (-i) h0
    rw [Int.neg_tmod] at this
    omega
  have hm : n ≤ 9223372036854775807 := by simpa [maxLen] using hn
  refine ⟨?_, fun hi => ?_, fun hi => ?_⟩
  · unfold idxR
    split <;> omega
  · unfold idxR
    rw [if_pos hi, wrap_in (by omega) (by omega)]
    omega
  · unfold idxR
    rw [if_neg hi]
    omega
def ac33 : AC := (.seq (.ops [⟨(some 2), none, (.box (.t 0))⟩, ⟨(some 4), none, (.mv (.c (.int .i64 0)))⟩]) (.seq (.ops [⟨(some 6), none, (.mv (.t 1))⟩, ⟨(some 7), none, (.fld 0 (.t 2))⟩, ⟨(some 8), none, (.ld false 1 (.t 7))⟩, ⟨(some 9), none, (.len (.t 8))⟩, ⟨(some 10), none, (.bin .rem (.t 6) (.t 9))⟩, ⟨(some 5), none, (.mv (.t 10))⟩]) (.seq (.seq (.ops [⟨(some 11), none, (.mv (.t 5))⟩, ⟨(some 12), none, (.bin .lss (.t 11) (.c (.int .i64 0)))⟩]) (.cond (.t 12) (.ops [⟨(some 13), none, (.mv (.t 5))⟩, ⟨(some 14), none, (.fld 0 (.t 2))⟩, ⟨(some 15), none, (.ld false 1 (.t 14))⟩, ⟨(some 16), none, (.len (.t 15))⟩, ⟨(some 17), none, (.bin .add (.t 13) (.t 16))⟩, ⟨(some 5), none, (.mv (.t 17))⟩]) .skip)) (.seq (.ops [⟨(some 18), none, (.mv (.t 5))⟩, ⟨(some 4), none, (.mv (.t 18))⟩]) .ret))))
theorem tr33 : Try.f33.body.bind (trCode Try.prog) = some (strip ac33) := by kernel_rfl
theorem spec33 (nw : Ntw) (i : Int) (h0 : nw.packets.length ≠ 0) : Spec Try.prog 33 [.fz (.agg (encNw nw)), .fz (.int .i64 i)] (.fz (.int .i64 (idxR nw.packets.length i))) := by
  refine spec_at (n := 17) (ars := [(.t 4)]) (ac := ac33) Try.func33 (by kernel_rfl) (by kernel_rfl) tr33 (by kernel_rfl) ?_
  unfold ac33
  have hz : ¬ ((nw.packets.length : Int) = 0) := by omega
  by_cases hm : nw.packets.length ≤ maxLen
  · obtain ⟨_, h1, h2⟩ := idx_facts h0 hm i
    iterate 30 (all_goals (try (first
      | (with_reducible refine ite_in (fun _ => ?_) (fun _ => ?_))
      | (with_reducible refine ⟨fun _ => ?_, fun _ => ?_⟩)
      | (with_reducible refine And.intro ?_ ?_)
      | (with_reducible intro _)
      | (with_reducible exact is_in _)
      | (simp -implicitDefEqProofs only [SD, SF, SL, e_nf, reduceCtorEq, implies_true, ↓reduceIte, Nat.reduceEqDiff, Nat.reduceAdd, Nat.reduceMul, Nat.reduceSub, Nat.reduceLeDiff, Nat.reduceLT, Int.reduceLT, Int.reduceLE, Int.reduceEq, Int.reduceToNat, Int.reduceAdd, Int.reduceSub, Int.reduceNeg, Int.reduceBEq, Int.reduceBNe, Nat.reduceBEq, Int.cast_ofNat_Int, decide_true, decide_false, ne_eq, eq_self_iff_true, beq_eq_false_iff_ne, bne_iff_ne, List.replicate, encNw, *]))))
    all_goals (simp_all)
  · skip
    iterate 30 (all_goals (try (first
      | (with_reducible refine ite_in (fun _ => ?_) (fun _ => ?_))
      | (with_reducible refine ⟨fun _ => ?_, fun _ => ?_⟩)
      | (with_reducible refine And.intro ?_ ?_)
      | (with_reducible intro _)
      | (with_reducible exact is_in _)
      | (simp -implicitDefEqProofs only [SD, SF, SL, e_nf, reduceCtorEq, implies_true, ↓reduceIte, Nat.reduceEqDiff, Nat.reduceAdd, Nat.reduceMul, Nat.reduceSub, Nat.reduceLeDiff, Nat.reduceLT, Int.reduceLT, Int.reduceLE, Int.reduceEq, Int.reduceToNat, Int.reduceAdd, Int.reduceSub, Int.reduceNeg, Int.reduceBEq, Int.reduceBNe, Nat.reduceBEq, Int.cast_ofNat_Int, decide_true, decide_false, ne_eq, eq_self_iff_true, beq_eq_false_iff_ne, bne_iff_ne, List.replicate, encNw, *]))))
    all_goals (simp_all)
def ac35 : AC := (.seq (.ops [⟨(some 2), none, (.box (.t 0))⟩, ⟨(some 4), none, (.mv (.c (.int .i64 0)))⟩]) (.seq (.ops [⟨(some 6), none, (.mv (.t 1))⟩, ⟨(some 7), none, (.fld 0 (.t 2))⟩, ⟨(some 8), none, (.ld false 1 (.t 7))⟩, ⟨(some 9), none, (.len (.t 8))⟩, ⟨(some 10), none, (.bin .rem (.t 6) (.t 9))⟩, ⟨(some 5), none, (.mv (.t 10))⟩]) (.seq (.seq (.ops [⟨(some 11), none, (.mv (.t 5))⟩, ⟨(some 12), none, (.bin .lss (.t 11) (.c (.int .i64 0)))⟩]) (.cond (.t 12) (.ops [⟨(some 13), none, (.mv (.t 5))⟩, ⟨(some 14), none, (.fld 0 (.t 2))⟩, ⟨(some 15), none, (.ld false 1 (.t 14))⟩, ⟨(some 16), none, (.len (.t 15))⟩, ⟨(some 17), none, (.bin .add (.t 13) (.t 16))⟩, ⟨(some 5), none, (.mv (.t 17))⟩]) .skip)) (.seq (.ops [⟨(some 18), none, (.mv (.t 5))⟩, ⟨(some 4), none, (.mv (.t 18))⟩]) .ret))))
theorem tr35 : Try.f35.body.bind (trCode Try.prog) = some (strip ac35) := by kernel_rfl
theorem spec35 (nw : Ntw) (i : Int) (h0 : nw.packets.length ≠ 0) : Spec Try.prog 35 [.fz (.agg (encNw nw)), .fz (.int .i64 i)] (.fz (.int .i64 (idxR nw.packets.length i))) := by
  refine spec_at (n := 17) (ars := [(.t 4)]) (ac := ac35) Try.func35 (by kernel_rfl) (by kernel_rfl) tr35 (by kernel_rfl) ?_
  unfold ac35
  have hz : ¬ ((nw.packets.length : Int) = 0) := by omega
  by_cases hm : nw.packets.length ≤ maxLen
  · obtain ⟨_, h1, h2⟩ := idx_facts h0 hm i
    iterate 30 (all_goals (try (first
      | (with_reducible refine ite_in (fun _ => ?_) (fun _ => ?_))
      | (with_reducible refine ⟨fun _ => ?_, fun _ => ?_⟩)
      | (with_reducible refine And.intro ?_ ?_)
      | (with_reducible intro _)
      | (with_reducible exact is_in _)
      | (simp -implicitDefEqProofs only [SD, SF, SL, e_nf, reduceCtorEq, implies_true, ↓reduceIte, Nat.reduceEqDiff, Nat.reduceAdd, Nat.reduceMul, Nat.reduceSub, Nat.reduceLeDiff, Nat.reduceLT, Int.reduceLT, Int.reduceLE, Int.reduceEq, Int.reduceToNat, Int.reduceAdd, Int.reduceSub, Int.reduceNeg, Int.reduceBEq, Int.reduceBNe, Nat.reduceBEq, Int.cast_ofNat_Int, decide_true, decide_false, ne_eq, eq_self_iff_true, beq_eq_false_iff_ne, bne_iff_ne, List.replicate, encNw, *]))))
    all_goals (simp_all)
  · skip
    iterate 30 (all_goals (try (first
      | (with_reducible refine ite_in (fun _ => ?_) (fun _ => ?_))
      | (with_reducible refine ⟨fun _ => ?_, fun _ => ?_⟩)
      | (with_reducible refine And.intro ?_ ?_)
      | (with_reducible intro _)
      | (with_reducible exact is_in _)
      | (simp -implicitDefEqProofs only [SD, SF, SL, e_nf, reduceCtorEq, implies_true, ↓reduceIte, Nat.reduceEqDiff, Nat.reduceAdd, Nat.reduceMul, Nat.reduceSub, Nat.reduceLeDiff, Nat.reduceLT, Int.reduceLT, Int.reduceLE, Int.reduceEq, Int.reduceToNat, Int.reduceAdd, Int.reduceSub, Int.reduceNeg, Int.reduceBEq, Int.reduceBNe, Nat.reduceBEq, Int.cast_ofNat_Int, decide_true, decide_false, ne_eq, eq_self_iff_true, beq_eq_false_iff_ne, bne_iff_ne, List.replicate, encNw, *]))))
    all_goals (simp_all)

end Go.Proofs.Ytklbfafdioeehaa.E
