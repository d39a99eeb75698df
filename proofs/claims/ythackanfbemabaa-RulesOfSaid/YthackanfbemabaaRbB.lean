/-
  RbB: walks of functions of the program at data level.
-/
import Derived.Test.YthackanfbemabaaProg
import Derived.Test.YthackanfbemabaaEngZ
import Derived.Test.YthackanfbemabaaRbA
import Derived.KernelRfl
set_option linter.unusedVariables false
set_option linter.unusedSimpArgs false
namespace Go.Proofs.Ythackanfbemabaa.E
open Go
set_option maxHeartbeats 4000000
set_option maxRecDepth 100000
set_option linter.unusedSimpArgs false
set_option linter.unusedVariables false
attribute [local congr] c_wp c_ops c_op c_opS c_run c_runS c_dt c_seq c_blk c_loop c_S c_put c_bind c_mv c_pick c_nt c_ng c_bin c_binI c_binS c_beq c_B c_eqa c_hd c_cells c_blkK c_box c_vec c_take c_ld c_ldF c_cellsK c_st c_fld c_fldv c_ix c_ixp c_ixv c_ixs c_sub c_subs c_len c_lens c_src c_dst c_ow c_app c_ext c_mm c_conv c_str c_isn c_fill c_rows c_boxo c_frz c_frzO c_frzA c_frzV c_spec c_specO c_fz c_fn c_gv c_cond c_res1 c_resL c_ret c_qret c_ite c_unr c_nx c_bk c_cut c_is
attribute [local irreducible] dwp

theorem wr_lit : (IntKind.i64.wrap 1 = 1 ∧ IntKind.i64.wrap 2 = 2 ∧ IntKind.i64.wrap 3 = 3 ∧ IntKind.i64.wrap 4 = 4) ∧ (IntKind.i64.wrap 5 = 5 ∧ IntKind.i64.wrap 6 = 6 ∧ IntKind.i64.wrap 7 = 7 ∧ IntKind.i64.wrap 8 = 8) := by decide
def userV (v : Lv) (u : List UInt8) : Int := userL v.users u v.a2
def okNs (old new : Lv) (user : List UInt8) : Bool := okN (userV old user) old.a2 new.a2 && okN (userV old user) old.a3 new.a3 && okN (userV old user) old.a4 new.a4 && okN (userV old user) old.a5 new.a5 && okN (userV old user) old.a6 new.a6 && okN (userV old user) old.a7 new.a7 && okN (userV old user) old.a8 new.a8
def okK (old new : Lv) (user : List UInt8) (x : LK) : Bool := okN (userV old user) (needs old x.kind) (needs new x.kind)
def okU (old new : Lv) (user u : List UInt8) : Bool := okN (userV old user) (userV old u) (userV new u) && decide (userV old u = userV new u ∨ u = user ∨ userV old u < userV old user)
def okX (old new : Lv) (user : List UInt8) (x : LU) : Bool := okU old new user x.user
def chgR (old new : Lv) (user : List UInt8) : Int := if (okNs old new user && (old.kinds ++ new.kinds).all (okK old new user) && (old.users ++ new.users).all (okX old new user)) = true then 0 else 20
def ac50 : AC := (.seq (.ops [⟨(some 4), none, (.mv (.c (.bool false)))⟩]) (.seq (.seq (.ops [⟨(some 6), none, (.mv (.t 0))⟩, ⟨(some 7), none, (.len (.t 6))⟩, ⟨(some 8), none, (.mv (.t 1))⟩, ⟨(some 9), none, (.len (.t 8))⟩, ⟨(some 10), none, (.bin .neq (.t 7) (.t 9))⟩]) (.cond (.t 10) (.seq (.ops [⟨(some 4), none, (.mv (.c (.bool false)))⟩]) .ret) .skip)) (.seq (.seq (.ops [⟨(some 11), none, (.mv (.t 0))⟩, ⟨(some 12), none, (.len (.t 11))⟩, ⟨(some 13), none, (.mv (.c (.int .i64 0)))⟩]) (.block 0 (.loop (.seq (.ops [⟨(some 14), none, (.bin .lss (.t 13) (.t 12))⟩]) (.seq (.cond (.t 14) .skip (.exit 0)) (.seq (.block 1 (.seq (.ops [⟨(some 15), none, (.mv (.t 13))⟩, ⟨(some 5), none, (.mv (.t 15))⟩]) (.seq (.draw (.q false ⟨(some 16), none, (.mv (.t 0))⟩ (.q false ⟨(some 17), none, (.mv (.t 5))⟩ (.q false ⟨(some 18), none, (.ix 2 (.t 16) (.t 17))⟩ (.q false ⟨(some 19), none, (.ld true 2 (.t 18))⟩ (.q false ⟨(some 20), none, (.mv (.t 1))⟩ (.q false ⟨(some 21), none, (.mv (.t 5))⟩ (.q false ⟨(some 22), none, (.ix 2 (.t 20) (.t 21))⟩ (.q false ⟨(some 23), none, (.ld true 2 (.t 22))⟩ (.op ⟨(some 24), none, (.eqa true [.s, .i] (.t 19) (.t 23))⟩ .nil)))))))))) (.cond (.t 24) (.seq (.ops [⟨(some 4), none, (.mv (.c (.bool false)))⟩]) .ret) .skip)))) (.ops [⟨(some 25), none, (.bin .add (.t 13) (.c (.int .i64 1)))⟩, ⟨(some 13), none, (.mv (.t 25))⟩]))))))) (.seq (.ops [⟨(some 4), none, (.mv (.c (.bool true)))⟩]) .ret))))
theorem tr50 : Try.f50.body.bind (trCode Try.prog) = some (strip ac50) := by kernel_rfl
theorem spec50 (a b : List LU) : Spec Try.prog 50 [.fz (.sl 2 (a.map encLU)), .fz (.sl 2 (b.map encLU))] (.fz (.bool (decide (a = b)))) := by
  refine spec_at (n := 24) (ars := [(.t 4)]) (ac := ac50) Try.func50 (by kernel_rfl) (by kernel_rfl) tr50 (by kernel_rfl) ?_
  unfold ac50
  simp -implicitDefEqProofs only [SD, SF, SL, e_nf, reduceCtorEq, implies_true, ↓reduceIte, Nat.reduceEqDiff, Nat.reduceAdd, Nat.reduceMul, Nat.reduceSub, Nat.reduceLeDiff, Nat.reduceLT, Int.reduceLT, Int.reduceLE, Int.reduceEq, Int.reduceToNat, Int.reduceAdd, Int.reduceSub, Int.reduceNeg, Int.reduceBEq, Int.reduceBNe, Nat.reduceBEq, Int.cast_ofNat_Int, decide_true, decide_false, ne_eq, eq_self_iff_true, beq_eq_false_iff_ne, bne_iff_ne, List.replicate, len_cast]
  intro _ _
  by_cases h : a.length = b.length
  · obtain ⟨z, rfl, rfl⟩ := zip_of_len h
    rw [eqz_dec]
    simp -implicitDefEqProofs only [SD, SF, SL, e_nf, reduceCtorEq, implies_true, ↓reduceIte, Nat.reduceEqDiff, Nat.reduceAdd, Nat.reduceMul, Nat.reduceSub, Nat.reduceLeDiff, Nat.reduceLT, Int.reduceLT, Int.reduceLE, Int.reduceEq, Int.reduceToNat, Int.reduceAdd, Int.reduceSub, Int.reduceNeg, Int.reduceBEq, Int.reduceBNe, Nat.reduceBEq, Int.cast_ofNat_Int, decide_true, decide_false, ne_eq, eq_self_iff_true, beq_eq_false_iff_ne, bne_iff_ne, List.replicate, len_cast, h]
    intro hl
    refine loop_q (X := List (LU × LU) × List (LU × LU) × Unit) (fun n x => z = x.1 ++ x.2.1 ∧ n = x.2.1.length ∧ (eqz x.1)) (fun x => [(13, .int .i64 x.1.length)]) (fun _ => []) [4, 5, 14, 15, 16, 17, 18, 19, 20, 21, 22, 23, 24, 25] [] (z).length ([], z, ()) ⟨rfl, rfl, by first | rfl | assumption | (simp_all [eqz_end, eqz_mid, eqz_nil, LU_eq]; done) | grind [eqz_end, eqz_mid, eqz_nil, LU_eq]⟩ ?_ ?_
    · simp -implicitDefEqProofs only [SD, SF, SL, e_nf, reduceCtorEq, implies_true, ↓reduceIte, Nat.reduceEqDiff, Nat.reduceAdd, Nat.reduceMul, Nat.reduceSub, Nat.reduceLeDiff, Nat.reduceLT, Int.reduceLT, Int.reduceLE, Int.reduceEq, Int.reduceToNat, Int.reduceAdd, Int.reduceSub, Int.reduceNeg, Int.reduceBEq, Int.reduceBNe, Nat.reduceBEq, Int.cast_ofNat_Int, decide_true, decide_false, ne_eq, eq_self_iff_true, beq_eq_false_iff_ne, bne_iff_ne, List.replicate, eqz_end, eqz_mid, eqz_nil, LU_eq] <;> simp
    · rintro n ⟨pre, rest, a⟩ ⟨he, rfl, hI⟩
      dsimp only at he hI
      cases rest with
      | nil =>
        obtain rfl : z = pre := by simpa using he
        clear he
        have hlt : ¬ (((z).length : Int) < ((z).length : Int)) := Int.lt_irrefl _
        iterate 30 (all_goals (try (first
          | (with_reducible refine ite_in (fun _ => ?_) (fun _ => ?_))
          | (with_reducible refine ⟨fun _ => ?_, fun _ => ?_⟩)
          | (with_reducible refine And.intro ?_ ?_)
          | (with_reducible intro _)
          | (with_reducible exact is_in _)
          | (simp -implicitDefEqProofs only [SD, SF, SL, e_nf, reduceCtorEq, implies_true, ↓reduceIte, Nat.reduceEqDiff, Nat.reduceAdd, Nat.reduceMul, Nat.reduceSub, Nat.reduceLeDiff, Nat.reduceLT, Int.reduceLT, Int.reduceLE, Int.reduceEq, Int.reduceToNat, Int.reduceAdd, Int.reduceSub, Int.reduceNeg, Int.reduceBEq, Int.reduceBNe, Nat.reduceBEq, Int.cast_ofNat_Int, decide_true, decide_false, ne_eq, eq_self_iff_true, beq_eq_false_iff_ne, bne_iff_ne, List.replicate, eqz_end, eqz_mid, eqz_nil, LU_eq, *]))))
        all_goals (simp_all [eqz_end, eqz_mid, eqz_nil, LU_eq])

      | cons x rest =>
        have hlt := cut_lt he
        have hx := cutD1 encLU he
        have hy := cutD2 encLU he
        have hez := eqz_mid pre x rest
        rw [← he] at hez
        simp only [encLU] at hx hy
        have hw := wrap_len (n := pre.length) (m := (z).length) (cut_lt' he) (by simpa using hl)
        replace he := Hd.mk he
        iterate 30 (all_goals (try (first
          | ((with_reducible refine back_in rest.length [4, 5, 14, 15, 16, 17, 18, 19, 20, 21, 22, 23, 24, 25] [] (pre ++ [x], rest, a) ?_ ⟨?_, ?_, ?_⟩ ?_)
             · simp
             · exact cut_snoc he.out
             · rfl
             · first | rfl | assumption | (simp_all [eqz_end, eqz_mid, eqz_nil, LU_eq]; done) | grind [eqz_end, eqz_mid, eqz_nil, LU_eq]
             · first | (simp -implicitDefEqProofs only [SD, SF, SL, e_nf, reduceCtorEq, implies_true, ↓reduceIte, Nat.reduceEqDiff, Nat.reduceAdd, Nat.reduceMul, Nat.reduceSub, Nat.reduceLeDiff, Nat.reduceLT, Int.reduceLT, Int.reduceLE, Int.reduceEq, Int.reduceToNat, Int.reduceAdd, Int.reduceSub, Int.reduceNeg, Int.reduceBEq, Int.reduceBNe, Nat.reduceBEq, Int.cast_ofNat_Int, decide_true, decide_false, ne_eq, eq_self_iff_true, beq_eq_false_iff_ne, bne_iff_ne, List.replicate, eqz_end, eqz_mid, eqz_nil, LU_eq] <;> simp <;> done) | (simp -implicitDefEqProofs only [SD, SF, SL, e_nf, reduceCtorEq, implies_true, ↓reduceIte, Nat.reduceEqDiff, Nat.reduceAdd, Nat.reduceMul, Nat.reduceSub, Nat.reduceLeDiff, Nat.reduceLT, Int.reduceLT, Int.reduceLE, Int.reduceEq, Int.reduceToNat, Int.reduceAdd, Int.reduceSub, Int.reduceNeg, Int.reduceBEq, Int.reduceBNe, Nat.reduceBEq, Int.cast_ofNat_Int, decide_true, decide_false, ne_eq, eq_self_iff_true, beq_eq_false_iff_ne, bne_iff_ne, List.replicate, eqz_end, eqz_mid, eqz_nil, LU_eq, *] <;> simp_all <;> done))
          | (with_reducible refine ite_in (fun _ => ?_) (fun _ => ?_))
          | (with_reducible refine ⟨fun _ => ?_, fun _ => ?_⟩)
          | (with_reducible refine And.intro ?_ ?_)
          | (with_reducible intro _)
          | (with_reducible exact is_in _)
          | (simp -implicitDefEqProofs only [SD, SF, SL, e_nf, reduceCtorEq, implies_true, ↓reduceIte, Nat.reduceEqDiff, Nat.reduceAdd, Nat.reduceMul, Nat.reduceSub, Nat.reduceLeDiff, Nat.reduceLT, Int.reduceLT, Int.reduceLE, Int.reduceEq, Int.reduceToNat, Int.reduceAdd, Int.reduceSub, Int.reduceNeg, Int.reduceBEq, Int.reduceBNe, Nat.reduceBEq, Int.cast_ofNat_Int, decide_true, decide_false, ne_eq, eq_self_iff_true, beq_eq_false_iff_ne, bne_iff_ne, List.replicate, eqz_end, eqz_mid, eqz_nil, LU_eq, *]))))
        all_goals (simp_all [eqz_end, eqz_mid, eqz_nil, LU_eq])
  · have hne : a ≠ b := fun e => h (by rw [e])
    iterate 30 (all_goals (try (first
      | (with_reducible refine ite_in (fun _ => ?_) (fun _ => ?_))
      | (with_reducible refine ⟨fun _ => ?_, fun _ => ?_⟩)
      | (with_reducible refine And.intro ?_ ?_)
      | (with_reducible intro _)
      | (with_reducible exact is_in _)
      | (simp -implicitDefEqProofs only [SD, SF, SL, e_nf, reduceCtorEq, implies_true, ↓reduceIte, Nat.reduceEqDiff, Nat.reduceAdd, Nat.reduceMul, Nat.reduceSub, Nat.reduceLeDiff, Nat.reduceLT, Int.reduceLT, Int.reduceLE, Int.reduceEq, Int.reduceToNat, Int.reduceAdd, Int.reduceSub, Int.reduceNeg, Int.reduceBEq, Int.reduceBNe, Nat.reduceBEq, Int.cast_ofNat_Int, decide_true, decide_false, ne_eq, eq_self_iff_true, beq_eq_false_iff_ne, bne_iff_ne, List.replicate, len_cast, *]))))
    all_goals (simp_all)
def ac51 : AC := (.seq (.ops [⟨(some 4), none, (.mv (.c (.bool false)))⟩]) (.seq (.seq (.ops [⟨(some 6), none, (.mv (.t 0))⟩, ⟨(some 7), none, (.len (.t 6))⟩, ⟨(some 8), none, (.mv (.t 1))⟩, ⟨(some 9), none, (.len (.t 8))⟩, ⟨(some 10), none, (.bin .neq (.t 7) (.t 9))⟩]) (.cond (.t 10) (.seq (.ops [⟨(some 4), none, (.mv (.c (.bool false)))⟩]) .ret) .skip)) (.seq (.seq (.ops [⟨(some 11), none, (.mv (.t 0))⟩, ⟨(some 12), none, (.len (.t 11))⟩, ⟨(some 13), none, (.mv (.c (.int .i64 0)))⟩]) (.block 0 (.loop (.seq (.ops [⟨(some 14), none, (.bin .lss (.t 13) (.t 12))⟩]) (.seq (.cond (.t 14) .skip (.exit 0)) (.seq (.block 1 (.seq (.ops [⟨(some 15), none, (.mv (.t 13))⟩, ⟨(some 5), none, (.mv (.t 15))⟩]) (.seq (.draw (.q false ⟨(some 16), none, (.mv (.t 0))⟩ (.q false ⟨(some 17), none, (.mv (.t 5))⟩ (.q false ⟨(some 18), none, (.ix 2 (.t 16) (.t 17))⟩ (.q false ⟨(some 19), none, (.ld true 2 (.t 18))⟩ (.q false ⟨(some 20), none, (.mv (.t 1))⟩ (.q false ⟨(some 21), none, (.mv (.t 5))⟩ (.q false ⟨(some 22), none, (.ix 2 (.t 20) (.t 21))⟩ (.q false ⟨(some 23), none, (.ld true 2 (.t 22))⟩ (.op ⟨(some 24), none, (.eqa true [.i, .i] (.t 19) (.t 23))⟩ .nil)))))))))) (.cond (.t 24) (.seq (.ops [⟨(some 4), none, (.mv (.c (.bool false)))⟩]) .ret) .skip)))) (.ops [⟨(some 25), none, (.bin .add (.t 13) (.c (.int .i64 1)))⟩, ⟨(some 13), none, (.mv (.t 25))⟩]))))))) (.seq (.ops [⟨(some 4), none, (.mv (.c (.bool true)))⟩]) .ret))))
theorem tr51 : Try.f51.body.bind (trCode Try.prog) = some (strip ac51) := by kernel_rfl
theorem spec51 (a b : List LK) : Spec Try.prog 51 [.fz (.sl 2 (a.map encLK)), .fz (.sl 2 (b.map encLK))] (.fz (.bool (decide (a = b)))) := by
  refine spec_at (n := 24) (ars := [(.t 4)]) (ac := ac51) Try.func51 (by kernel_rfl) (by kernel_rfl) tr51 (by kernel_rfl) ?_
  unfold ac51
  simp -implicitDefEqProofs only [SD, SF, SL, e_nf, reduceCtorEq, implies_true, ↓reduceIte, Nat.reduceEqDiff, Nat.reduceAdd, Nat.reduceMul, Nat.reduceSub, Nat.reduceLeDiff, Nat.reduceLT, Int.reduceLT, Int.reduceLE, Int.reduceEq, Int.reduceToNat, Int.reduceAdd, Int.reduceSub, Int.reduceNeg, Int.reduceBEq, Int.reduceBNe, Nat.reduceBEq, Int.cast_ofNat_Int, decide_true, decide_false, ne_eq, eq_self_iff_true, beq_eq_false_iff_ne, bne_iff_ne, List.replicate, len_cast]
  intro _ _
  by_cases h : a.length = b.length
  · obtain ⟨z, rfl, rfl⟩ := zip_of_len h
    rw [eqz_dec]
    simp -implicitDefEqProofs only [SD, SF, SL, e_nf, reduceCtorEq, implies_true, ↓reduceIte, Nat.reduceEqDiff, Nat.reduceAdd, Nat.reduceMul, Nat.reduceSub, Nat.reduceLeDiff, Nat.reduceLT, Int.reduceLT, Int.reduceLE, Int.reduceEq, Int.reduceToNat, Int.reduceAdd, Int.reduceSub, Int.reduceNeg, Int.reduceBEq, Int.reduceBNe, Nat.reduceBEq, Int.cast_ofNat_Int, decide_true, decide_false, ne_eq, eq_self_iff_true, beq_eq_false_iff_ne, bne_iff_ne, List.replicate, len_cast, h]
    intro hl
    refine loop_q (X := List (LK × LK) × List (LK × LK) × Unit) (fun n x => z = x.1 ++ x.2.1 ∧ n = x.2.1.length ∧ (eqz x.1)) (fun x => [(13, .int .i64 x.1.length)]) (fun _ => []) [4, 5, 14, 15, 16, 17, 18, 19, 20, 21, 22, 23, 24, 25] [] (z).length ([], z, ()) ⟨rfl, rfl, by first | rfl | assumption | (simp_all [eqz_end, eqz_mid, eqz_nil, LK_eq]; done) | grind [eqz_end, eqz_mid, eqz_nil, LK_eq]⟩ ?_ ?_
    · simp -implicitDefEqProofs only [SD, SF, SL, e_nf, reduceCtorEq, implies_true, ↓reduceIte, Nat.reduceEqDiff, Nat.reduceAdd, Nat.reduceMul, Nat.reduceSub, Nat.reduceLeDiff, Nat.reduceLT, Int.reduceLT, Int.reduceLE, Int.reduceEq, Int.reduceToNat, Int.reduceAdd, Int.reduceSub, Int.reduceNeg, Int.reduceBEq, Int.reduceBNe, Nat.reduceBEq, Int.cast_ofNat_Int, decide_true, decide_false, ne_eq, eq_self_iff_true, beq_eq_false_iff_ne, bne_iff_ne, List.replicate, eqz_end, eqz_mid, eqz_nil, LK_eq] <;> simp
    · rintro n ⟨pre, rest, a⟩ ⟨he, rfl, hI⟩
      dsimp only at he hI
      cases rest with
      | nil =>
        obtain rfl : z = pre := by simpa using he
        clear he
        have hlt : ¬ (((z).length : Int) < ((z).length : Int)) := Int.lt_irrefl _
        iterate 30 (all_goals (try (first
          | (with_reducible refine ite_in (fun _ => ?_) (fun _ => ?_))
          | (with_reducible refine ⟨fun _ => ?_, fun _ => ?_⟩)
          | (with_reducible refine And.intro ?_ ?_)
          | (with_reducible intro _)
          | (with_reducible exact is_in _)
          | (simp -implicitDefEqProofs only [SD, SF, SL, e_nf, reduceCtorEq, implies_true, ↓reduceIte, Nat.reduceEqDiff, Nat.reduceAdd, Nat.reduceMul, Nat.reduceSub, Nat.reduceLeDiff, Nat.reduceLT, Int.reduceLT, Int.reduceLE, Int.reduceEq, Int.reduceToNat, Int.reduceAdd, Int.reduceSub, Int.reduceNeg, Int.reduceBEq, Int.reduceBNe, Nat.reduceBEq, Int.cast_ofNat_Int, decide_true, decide_false, ne_eq, eq_self_iff_true, beq_eq_false_iff_ne, bne_iff_ne, List.replicate, eqz_end, eqz_mid, eqz_nil, LK_eq, *]))))
        all_goals (simp_all [eqz_end, eqz_mid, eqz_nil, LK_eq])

      | cons x rest =>
        have hlt := cut_lt he
        have hx := cutD1 encLK he
        have hy := cutD2 encLK he
        have hez := eqz_mid pre x rest
        rw [← he] at hez
        simp only [encLK] at hx hy
        have hw := wrap_len (n := pre.length) (m := (z).length) (cut_lt' he) (by simpa using hl)
        replace he := Hd.mk he
        iterate 30 (all_goals (try (first
          | ((with_reducible refine back_in rest.length [4, 5, 14, 15, 16, 17, 18, 19, 20, 21, 22, 23, 24, 25] [] (pre ++ [x], rest, a) ?_ ⟨?_, ?_, ?_⟩ ?_)
             · simp
             · exact cut_snoc he.out
             · rfl
             · first | rfl | assumption | (simp_all [eqz_end, eqz_mid, eqz_nil, LK_eq]; done) | grind [eqz_end, eqz_mid, eqz_nil, LK_eq]
             · first | (simp -implicitDefEqProofs only [SD, SF, SL, e_nf, reduceCtorEq, implies_true, ↓reduceIte, Nat.reduceEqDiff, Nat.reduceAdd, Nat.reduceMul, Nat.reduceSub, Nat.reduceLeDiff, Nat.reduceLT, Int.reduceLT, Int.reduceLE, Int.reduceEq, Int.reduceToNat, Int.reduceAdd, Int.reduceSub, Int.reduceNeg, Int.reduceBEq, Int.reduceBNe, Nat.reduceBEq, Int.cast_ofNat_Int, decide_true, decide_false, ne_eq, eq_self_iff_true, beq_eq_false_iff_ne, bne_iff_ne, List.replicate, eqz_end, eqz_mid, eqz_nil, LK_eq] <;> simp <;> done) | (simp -implicitDefEqProofs only [SD, SF, SL, e_nf, reduceCtorEq, implies_true, ↓reduceIte, Nat.reduceEqDiff, Nat.reduceAdd, Nat.reduceMul, Nat.reduceSub, Nat.reduceLeDiff, Nat.reduceLT, Int.reduceLT, Int.reduceLE, Int.reduceEq, Int.reduceToNat, Int.reduceAdd, Int.reduceSub, Int.reduceNeg, Int.reduceBEq, Int.reduceBNe, Nat.reduceBEq, Int.cast_ofNat_Int, decide_true, decide_false, ne_eq, eq_self_iff_true, beq_eq_false_iff_ne, bne_iff_ne, List.replicate, eqz_end, eqz_mid, eqz_nil, LK_eq, *] <;> simp_all <;> done))
          | (with_reducible refine ite_in (fun _ => ?_) (fun _ => ?_))
          | (with_reducible refine ⟨fun _ => ?_, fun _ => ?_⟩)
          | (with_reducible refine And.intro ?_ ?_)
          | (with_reducible intro _)
          | (with_reducible exact is_in _)
          | (simp -implicitDefEqProofs only [SD, SF, SL, e_nf, reduceCtorEq, implies_true, ↓reduceIte, Nat.reduceEqDiff, Nat.reduceAdd, Nat.reduceMul, Nat.reduceSub, Nat.reduceLeDiff, Nat.reduceLT, Int.reduceLT, Int.reduceLE, Int.reduceEq, Int.reduceToNat, Int.reduceAdd, Int.reduceSub, Int.reduceNeg, Int.reduceBEq, Int.reduceBNe, Nat.reduceBEq, Int.cast_ofNat_Int, decide_true, decide_false, ne_eq, eq_self_iff_true, beq_eq_false_iff_ne, bne_iff_ne, List.replicate, eqz_end, eqz_mid, eqz_nil, LK_eq, *]))))
        all_goals (simp_all [eqz_end, eqz_mid, eqz_nil, LK_eq])
  · have hne : a ≠ b := fun e => h (by rw [e])
    iterate 30 (all_goals (try (first
      | (with_reducible refine ite_in (fun _ => ?_) (fun _ => ?_))
      | (with_reducible refine ⟨fun _ => ?_, fun _ => ?_⟩)
      | (with_reducible refine And.intro ?_ ?_)
      | (with_reducible intro _)
      | (with_reducible exact is_in _)
      | (simp -implicitDefEqProofs only [SD, SF, SL, e_nf, reduceCtorEq, implies_true, ↓reduceIte, Nat.reduceEqDiff, Nat.reduceAdd, Nat.reduceMul, Nat.reduceSub, Nat.reduceLeDiff, Nat.reduceLT, Int.reduceLT, Int.reduceLE, Int.reduceEq, Int.reduceToNat, Int.reduceAdd, Int.reduceSub, Int.reduceNeg, Int.reduceBEq, Int.reduceBNe, Nat.reduceBEq, Int.cast_ofNat_Int, decide_true, decide_false, ne_eq, eq_self_iff_true, beq_eq_false_iff_ne, bne_iff_ne, List.replicate, len_cast, *]))))
    all_goals (simp_all)
def ac37 : AC := (.seq (.ops [⟨(some 2), none, (.box (.t 0))⟩, ⟨(some 3), none, (.box (.t 1))⟩, ⟨(some 4), none, (.mv (.c (.bool false)))⟩]) (.seq (.draw (.q false ⟨(some 5), none, (.ld true 9 (.t 2))⟩ (.q false ⟨(some 7), none, (.ld true 9 (.t 3))⟩ (.op ⟨(some 6), none, (.call false 47 [(.t 5)])⟩ (.op ⟨(some 8), none, (.call false 47 [(.t 7)])⟩ (.op ⟨(some 9), none, (.eqa false [.i, .i, .i, .i, .i, .i, .i] (.t 6) (.t 8))⟩ (.q false ⟨(some 10), none, (.mv (.t 9))⟩ (.q false ⟨(some 11), (some (10, true)), (.fld 0 (.t 2))⟩ (.q false ⟨(some 12), (some (10, true)), (.ld false 1 (.t 11))⟩ (.q false ⟨(some 13), (some (10, true)), (.fld 0 (.t 3))⟩ (.q false ⟨(some 14), (some (10, true)), (.ld false 1 (.t 13))⟩ (.op ⟨(some 15), (some (10, true)), (.call false 50 [(.t 12), (.t 14)])⟩ (.q false ⟨(some 16), none, (.pick (.t 10) (.t 15) (.c (.bool false)))⟩ (.q false ⟨(some 17), none, (.mv (.t 16))⟩ (.q false ⟨(some 18), (some (17, true)), (.fld 1 (.t 2))⟩ (.q false ⟨(some 19), (some (17, true)), (.ld false 1 (.t 18))⟩ (.q false ⟨(some 20), (some (17, true)), (.fld 1 (.t 3))⟩ (.q false ⟨(some 21), (some (17, true)), (.ld false 1 (.t 20))⟩ (.op ⟨(some 22), (some (17, true)), (.call false 51 [(.t 19), (.t 21)])⟩ (.q false ⟨(some 23), none, (.pick (.t 17) (.t 22) (.c (.bool false)))⟩ (.q false ⟨(some 4), none, (.mv (.t 23))⟩ .nil))))))))))))))))))))) .ret))
theorem tr37 : Try.f37.body.bind (trCode Try.prog) = some (strip ac37) := by kernel_rfl
theorem spec37 (v w : Lv) : Spec Try.prog 37 [.fz (.agg (encLv v)), .fz (.agg (encLv w))] (.fz (.bool (decide (v = w)))) := by
  refine spec_at (n := 22) (ars := [(.t 4)]) (ac := ac37) Try.func37 (by kernel_rfl) (by kernel_rfl) tr37 (by kernel_rfl) ?_
  unfold ac37
  obtain ⟨us, ks, c2, c3, c4, c5, c6, c7, c8⟩ := v
  obtain ⟨us', ks', d2, d3, d4, d5, d6, d7, d8⟩ := w
  iterate 30 (all_goals (try (first
    | ((with_reducible refine of_kSpec ?_); refine call_fz (spec47 ⟨us, ks, c2, c3, c4, c5, c6, c7, c8⟩) rfl ?_)
    | ((with_reducible refine of_kSpec ?_); refine call_fz (spec47 ⟨us', ks', d2, d3, d4, d5, d6, d7, d8⟩) rfl ?_)
    | ((with_reducible refine of_kSpec ?_); refine call_fz (spec50 us us') rfl ?_)
    | ((with_reducible refine of_kSpec ?_); refine call_fz (spec51 ks ks') rfl ?_)
    | (with_reducible refine ite_in (fun _ => ?_) (fun _ => ?_))
    | (with_reducible refine ⟨fun _ => ?_, fun _ => ?_⟩)
    | (with_reducible refine And.intro ?_ ?_)
    | (with_reducible intro _)
    | (with_reducible exact is_in _)
    | (simp -implicitDefEqProofs only [SD, SF, SL, e_nf, reduceCtorEq, implies_true, ↓reduceIte, Nat.reduceEqDiff, Nat.reduceAdd, Nat.reduceMul, Nat.reduceSub, Nat.reduceLeDiff, Nat.reduceLT, Int.reduceLT, Int.reduceLE, Int.reduceEq, Int.reduceToNat, Int.reduceAdd, Int.reduceSub, Int.reduceNeg, Int.reduceBEq, Int.reduceBNe, Nat.reduceBEq, Int.cast_ofNat_Int, decide_true, decide_false, ne_eq, eq_self_iff_true, beq_eq_false_iff_ne, bne_iff_ne, List.replicate, encLv, nums, Lv.mk.injEq, *]))))
  all_goals (first | (simp_all; done) | grind)
def ac49 : AC := (.seq (.ops [⟨(some 4), none, (.box (.t 0))⟩, ⟨(some 5), none, (.box (.t 1))⟩, ⟨(some 8), none, (.mv (.c (.bool false)))⟩]) (.seq (.draw (.q false ⟨(some 12), none, (.ld true 9 (.t 4))⟩ (.q false ⟨(some 13), none, (.mv (.t 3))⟩ (.q false ⟨(some 15), none, (.ld true 9 (.t 4))⟩ (.q false ⟨(some 16), none, (.mv (.t 2))⟩ (.q false ⟨(some 18), none, (.ld true 9 (.t 5))⟩ (.q false ⟨(some 19), none, (.mv (.t 2))⟩ (.op ⟨(some 14), none, (.call false 27 [(.t 12), (.t 13)])⟩ (.op ⟨(some 17), none, (.call false 27 [(.t 15), (.t 16)])⟩ (.op ⟨(some 20), none, (.call false 27 [(.t 18), (.t 19)])⟩ (.q false ⟨(some 9), none, (.mv (.t 14))⟩ (.q false ⟨(some 10), none, (.mv (.t 17))⟩ (.q false ⟨(some 11), none, (.mv (.t 20))⟩ .nil))))))))))))) (.seq (.ops [⟨(some 21), none, (.mv (.t 10))⟩, ⟨(some 22), none, (.mv (.t 11))⟩, ⟨(some 23), none, (.mv (.t 9))⟩, ⟨(some 24), none, (.call false 48 [(.t 21), (.t 22), (.t 23)])⟩, ⟨(some 25), none, (.mv (.t 24))⟩, ⟨(some 26), (some (25, true)), (.mv (.t 10))⟩, ⟨(some 27), (some (25, true)), (.mv (.t 11))⟩, ⟨(some 28), (some (25, true)), (.bin .eql (.t 26) (.t 27))⟩, ⟨(some 29), (some (25, true)), (.mv (.t 28))⟩, ⟨(some 30), (some (29, false)), (.mv (.t 2))⟩, ⟨(some 31), (some (29, false)), (.mv (.t 3))⟩, ⟨(some 32), (some (29, false)), (.bin .eql (.t 30) (.t 31))⟩, ⟨(some 33), (some (25, true)), (.pick (.t 29) (.c (.bool true)) (.t 32))⟩, ⟨(some 34), (some (25, true)), (.mv (.t 33))⟩, ⟨(some 35), (some (34, false)), (.mv (.t 10))⟩, ⟨(some 36), (some (34, false)), (.mv (.t 9))⟩, ⟨(some 37), (some (34, false)), (.bin .lss (.t 35) (.t 36))⟩, ⟨(some 38), (some (25, true)), (.pick (.t 34) (.c (.bool true)) (.t 37))⟩, ⟨(some 39), none, (.pick (.t 25) (.t 38) (.c (.bool false)))⟩, ⟨(some 8), none, (.mv (.t 39))⟩]) .ret)))
theorem tr49 : Try.f49.body.bind (trCode Try.prog) = some (strip ac49) := by kernel_rfl
theorem spec49 (old new : Lv) (u user : List UInt8) : Spec Try.prog 49 [.fz (.agg (encLv old)), .fz (.agg (encLv new)), .fz (.str u), .fz (.str user)] (.fz (.bool (okU old new user u))) := by
  refine spec_at (n := 36) (ars := [(.t 8)]) (ac := ac49) Try.func49 (by kernel_rfl) (by kernel_rfl) tr49 (by kernel_rfl) ?_
  unfold ac49
  iterate 30 (all_goals (try (first
    | ((with_reducible refine of_kSpec ?_); refine call_fz (spec27 old user) rfl ?_)
    | ((with_reducible refine of_kSpec ?_); refine call_fz (spec27 old u) rfl ?_)
    | ((with_reducible refine of_kSpec ?_); refine call_fz (spec27 new u) rfl ?_)
    | ((with_reducible refine of_kSpec ?_); refine call_fz (spec48 _ _ _) rfl ?_)
    | (with_reducible refine ite_in (fun _ => ?_) (fun _ => ?_))
    | (with_reducible refine ⟨fun _ => ?_, fun _ => ?_⟩)
    | (with_reducible refine And.intro ?_ ?_)
    | (with_reducible intro _)
    | (with_reducible exact is_in _)
    | (simp -implicitDefEqProofs only [SD, SF, SL, e_nf, reduceCtorEq, implies_true, ↓reduceIte, Nat.reduceEqDiff, Nat.reduceAdd, Nat.reduceMul, Nat.reduceSub, Nat.reduceLeDiff, Nat.reduceLT, Int.reduceLT, Int.reduceLE, Int.reduceEq, Int.reduceToNat, Int.reduceAdd, Int.reduceSub, Int.reduceNeg, Int.reduceBEq, Int.reduceBNe, Nat.reduceBEq, Int.cast_ofNat_Int, decide_true, decide_false, ne_eq, eq_self_iff_true, beq_eq_false_iff_ne, bne_iff_ne, List.replicate, encLv, *]))))
  all_goals (first | (simp_all [okU, userV]; done) | grind [okU, userV])

end Go.Proofs.Ythackanfbemabaa.E
