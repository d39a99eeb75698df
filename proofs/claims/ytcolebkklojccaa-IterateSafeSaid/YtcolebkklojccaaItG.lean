/-
  ItG: walks of functions of the program at data level.
-/
import Derived.Test.YtcolebkklojccaaProg
import Derived.Test.YtcolebkklojccaaEngZ
import Derived.Test.YtcolebkklojccaaItB
import Derived.KernelRfl
set_option linter.unusedVariables false
set_option linter.unusedSimpArgs false
namespace Go.Proofs.Ytcolebkklojccaa.E
open Go
set_option maxHeartbeats 4000000
set_option maxRecDepth 100000
set_option linter.unusedSimpArgs false
set_option linter.unusedVariables false
attribute [local congr] c_wp c_ops c_op c_opS c_run c_runS c_dt c_seq c_blk c_loop c_S c_put c_bind c_mv c_pick c_nt c_ng c_bin c_binI c_binS c_beq c_B c_eqa c_hd c_cells c_blkK c_box c_vec c_mp c_nck c_mks c_appn c_mkm c_mput c_mlk c_mrm c_take c_ld c_ldF c_cellsK c_st c_fld c_fldv c_ix c_ixp c_ixv c_ixs c_sub c_subs c_len c_lens c_src c_dst c_ow c_app c_ext c_mm c_conv c_str c_isn c_fill c_rows c_boxo c_frz c_frzO c_frzA c_frzV c_spec c_specO c_opsP c_opP c_runP c_specP c_Z c_qretP c_fz c_fn c_gv c_cond c_res1 c_resL c_ret c_qret c_ite c_unr c_nx c_bk c_cut c_is
attribute [local irreducible] dwp
def ac18 : AC := (.seq (.ops [⟨(some 4), none, (.mv (.c (.bool false)))⟩]) (.seq (.seq (.ops [⟨(some 6), none, (.mv (.t 0))⟩, ⟨(some 7), none, (.len (.t 6))⟩, ⟨(some 8), none, (.mv (.t 1))⟩, ⟨(some 9), none, (.len (.t 8))⟩, ⟨(some 10), none, (.bin .neq (.t 7) (.t 9))⟩]) (.cond (.t 10) (.seq (.ops [⟨(some 4), none, (.mv (.c (.bool false)))⟩]) .ret) .skip)) (.seq (.seq (.ops [⟨(some 5), none, (.mv (.c (.int .i64 0)))⟩]) (.block 0 (.loop (.seq (.seq (.ops [⟨(some 11), none, (.mv (.t 5))⟩, ⟨(some 12), none, (.mv (.t 0))⟩, ⟨(some 13), none, (.len (.t 12))⟩, ⟨(some 14), none, (.bin .lss (.t 11) (.t 13))⟩]) (.cond (.t 14) .skip (.exit 0))) (.seq (.block 1 (.seq (.draw (.q false ⟨(some 17), none, (.mv (.t 0))⟩ (.q false ⟨(some 18), none, (.mv (.t 5))⟩ (.q false ⟨(some 19), none, (.ix 1 (.t 17) (.t 18))⟩ (.q false ⟨(some 20), none, (.ld false 1 (.t 19))⟩ (.q false ⟨(some 21), none, (.mv (.t 1))⟩ (.q false ⟨(some 22), none, (.mv (.t 5))⟩ (.q false ⟨(some 23), none, (.ix 1 (.t 21) (.t 22))⟩ (.q false ⟨(some 24), none, (.ld false 1 (.t 23))⟩ (.q false ⟨(some 25), none, (.bin .neq (.t 20) (.t 24))⟩ .nil)))))))))) (.cond (.t 25) (.seq (.ops [⟨(some 4), none, (.mv (.c (.bool false)))⟩]) .ret) .skip))) (.ops [⟨(some 15), none, (.mv (.t 5))⟩, ⟨(some 16), none, (.bin .add (.t 15) (.c (.int .i64 1)))⟩, ⟨(some 5), none, (.mv (.t 16))⟩])))))) (.seq (.ops [⟨(some 4), none, (.mv (.c (.bool true)))⟩]) .ret))))
theorem tr18 : Try.f18.body.bind (trCode Try.prog) = some (strip ac18) := by kernel_rfl
theorem spec18 (a b : List Int) : Spec Try.prog 18 [.fz (.sl 1 (a.map encN)), .fz (.sl 1 (b.map encN))] (.fz (.bool (decide (a = b)))) := by
  refine spec_at (n := 24) (ars := [(.t 4)]) (ac := ac18) Try.func18 (by kernel_rfl) (by kernel_rfl) tr18 (by kernel_rfl) ?_
  unfold ac18
  simp -implicitDefEqProofs only [SD, SF, SL, e_nf, reduceCtorEq, implies_true, ↓reduceIte, Nat.reduceEqDiff, Nat.reduceAdd, Nat.reduceMul, Nat.reduceSub, Nat.reduceLeDiff, Nat.reduceLT, Int.reduceLT, Int.reduceLE, Int.reduceEq, Int.reduceToNat, Int.reduceAdd, Int.reduceSub, Int.reduceNeg, Int.reduceBEq, Int.reduceBNe, Nat.reduceBEq, Int.cast_ofNat_Int, decide_true, decide_false, ne_eq, eq_self_iff_true, beq_eq_false_iff_ne, bne_iff_ne, List.replicate, len_cast]
  intro _ _
  by_cases h : a.length = b.length
  · obtain ⟨z, rfl, rfl⟩ := zip_of_len h
    rw [eqz_dec]
    simp -implicitDefEqProofs only [SD, SF, SL, e_nf, reduceCtorEq, implies_true, ↓reduceIte, Nat.reduceEqDiff, Nat.reduceAdd, Nat.reduceMul, Nat.reduceSub, Nat.reduceLeDiff, Nat.reduceLT, Int.reduceLT, Int.reduceLE, Int.reduceEq, Int.reduceToNat, Int.reduceAdd, Int.reduceSub, Int.reduceNeg, Int.reduceBEq, Int.reduceBNe, Nat.reduceBEq, Int.cast_ofNat_Int, decide_true, decide_false, ne_eq, eq_self_iff_true, beq_eq_false_iff_ne, bne_iff_ne, List.replicate, len_cast, h]
    refine loop_q (X := List (Int × Int) × List (Int × Int) × Unit) (fun n x => z = x.1 ++ x.2.1 ∧ n = x.2.1.length ∧ (eqz x.1)) (fun x => [(5, .int .i64 x.1.length)]) (fun _ => []) [4, 11, 12, 13, 14, 15, 16, 17, 18, 19, 20, 21, 22, 23, 24, 25] []  (z).length ([], z, ()) ⟨rfl, rfl, by first | rfl | assumption | (simp_all [eqz_end, eqz_mid, eqz_nil]; done) | grind [eqz_end, eqz_mid, eqz_nil]⟩ ?_ ?_
    · simp -implicitDefEqProofs only [SD, SF, SL, e_nf, reduceCtorEq, implies_true, ↓reduceIte, Nat.reduceEqDiff, Nat.reduceAdd, Nat.reduceMul, Nat.reduceSub, Nat.reduceLeDiff, Nat.reduceLT, Int.reduceLT, Int.reduceLE, Int.reduceEq, Int.reduceToNat, Int.reduceAdd, Int.reduceSub, Int.reduceNeg, Int.reduceBEq, Int.reduceBNe, Nat.reduceBEq, Int.cast_ofNat_Int, decide_true, decide_false, ne_eq, eq_self_iff_true, beq_eq_false_iff_ne, bne_iff_ne, List.replicate, eqz_end, eqz_mid, eqz_nil] <;> simp
    · rintro n ⟨pre, rest, a⟩ ⟨he, rfl, hI⟩
      dsimp only at he hI
      cases rest with
      | nil =>
        obtain rfl : z = pre := by simpa using he
        clear he
        have hlt : ¬ (((z).length : Int) < ((z).length : Int)) := Int.lt_irrefl _
        iterate 30 (all_goals (try (first
          | (with_reducible refine ite_in (fun _ => ?_) (fun _ => ?_))
          | (with_reducible refine ⟨fun _ => ?_, fun _ => ?_⟩)
          | (with_reducible refine And.intro ?_ ?_)
          | (with_reducible intro _)
          | (with_reducible exact is_in _)
          | (simp -implicitDefEqProofs only [SD, SF, SL, e_nf, reduceCtorEq, implies_true, ↓reduceIte, Nat.reduceEqDiff, Nat.reduceAdd, Nat.reduceMul, Nat.reduceSub, Nat.reduceLeDiff, Nat.reduceLT, Int.reduceLT, Int.reduceLE, Int.reduceEq, Int.reduceToNat, Int.reduceAdd, Int.reduceSub, Int.reduceNeg, Int.reduceBEq, Int.reduceBNe, Nat.reduceBEq, Int.cast_ofNat_Int, decide_true, decide_false, ne_eq, eq_self_iff_true, beq_eq_false_iff_ne, bne_iff_ne, List.replicate, eqz_end, eqz_mid, eqz_nil, *]))))
        all_goals (simp_all [eqz_end, eqz_mid, eqz_nil])

      | cons x rest =>
        have hlt := cut_lt he
        have hx := cutD1 encN he
        have hy := cutD2 encN he
        have hez := eqz_mid pre x rest
        rw [← he] at hez
        simp only [encN] at hx hy
        simp -implicitDefEqProofs only [SD, SF, SL, e_nf, reduceCtorEq, implies_true, ↓reduceIte, Nat.reduceEqDiff, Nat.reduceAdd, Nat.reduceMul, Nat.reduceSub, Nat.reduceLeDiff, Nat.reduceLT, Int.reduceLT, Int.reduceLE, Int.reduceEq, Int.reduceToNat, Int.reduceAdd, Int.reduceSub, Int.reduceNeg, Int.reduceBEq, Int.reduceBNe, Nat.reduceBEq, Int.cast_ofNat_Int, decide_true, decide_false, ne_eq, eq_self_iff_true, beq_eq_false_iff_ne, bne_iff_ne, List.replicate, eqz_end, eqz_mid, eqz_nil, hlt]
        intro hl
        have hw := wrap_len (n := pre.length) (m := (z).length) (cut_lt' he) (by simpa using hl)
        replace he := Hd.mk he
        iterate 30 (all_goals (try (first
          | ((with_reducible refine back_in rest.length [4, 11, 12, 13, 14, 15, 16, 17, 18, 19, 20, 21, 22, 23, 24, 25] [] (pre ++ [x], rest, a) ?_ ⟨?_, ?_, ?_⟩ ?_)
             · simp
             · exact cut_snoc he.out
             · rfl
             · first | rfl | assumption | (simp_all [eqz_end, eqz_mid, eqz_nil]; done) | grind [eqz_end, eqz_mid, eqz_nil]
             · first | (simp -implicitDefEqProofs only [SD, SF, SL, e_nf, reduceCtorEq, implies_true, ↓reduceIte, Nat.reduceEqDiff, Nat.reduceAdd, Nat.reduceMul, Nat.reduceSub, Nat.reduceLeDiff, Nat.reduceLT, Int.reduceLT, Int.reduceLE, Int.reduceEq, Int.reduceToNat, Int.reduceAdd, Int.reduceSub, Int.reduceNeg, Int.reduceBEq, Int.reduceBNe, Nat.reduceBEq, Int.cast_ofNat_Int, decide_true, decide_false, ne_eq, eq_self_iff_true, beq_eq_false_iff_ne, bne_iff_ne, List.replicate, eqz_end, eqz_mid, eqz_nil] <;> simp <;> done) | (simp -implicitDefEqProofs only [SD, SF, SL, e_nf, reduceCtorEq, implies_true, ↓reduceIte, Nat.reduceEqDiff, Nat.reduceAdd, Nat.reduceMul, Nat.reduceSub, Nat.reduceLeDiff, Nat.reduceLT, Int.reduceLT, Int.reduceLE, Int.reduceEq, Int.reduceToNat, Int.reduceAdd, Int.reduceSub, Int.reduceNeg, Int.reduceBEq, Int.reduceBNe, Nat.reduceBEq, Int.cast_ofNat_Int, decide_true, decide_false, ne_eq, eq_self_iff_true, beq_eq_false_iff_ne, bne_iff_ne, List.replicate, eqz_end, eqz_mid, eqz_nil, *] <;> simp_all <;> done))
          | (with_reducible refine ite_in (fun _ => ?_) (fun _ => ?_))
          | (with_reducible refine ⟨fun _ => ?_, fun _ => ?_⟩)
          | (with_reducible refine And.intro ?_ ?_)
          | (with_reducible intro _)
          | (with_reducible exact is_in _)
          | (simp -implicitDefEqProofs only [SD, SF, SL, e_nf, reduceCtorEq, implies_true, ↓reduceIte, Nat.reduceEqDiff, Nat.reduceAdd, Nat.reduceMul, Nat.reduceSub, Nat.reduceLeDiff, Nat.reduceLT, Int.reduceLT, Int.reduceLE, Int.reduceEq, Int.reduceToNat, Int.reduceAdd, Int.reduceSub, Int.reduceNeg, Int.reduceBEq, Int.reduceBNe, Nat.reduceBEq, Int.cast_ofNat_Int, decide_true, decide_false, ne_eq, eq_self_iff_true, beq_eq_false_iff_ne, bne_iff_ne, List.replicate, eqz_end, eqz_mid, eqz_nil, *]))))
        all_goals (simp_all [eqz_end, eqz_mid, eqz_nil])
  · have hne : a ≠ b := fun e => h (by rw [e])
    iterate 30 (all_goals (try (first
      | (with_reducible refine ite_in (fun _ => ?_) (fun _ => ?_))
      | (with_reducible refine ⟨fun _ => ?_, fun _ => ?_⟩)
      | (with_reducible refine And.intro ?_ ?_)
      | (with_reducible intro _)
      | (with_reducible exact is_in _)
      | (simp -implicitDefEqProofs only [SD, SF, SL, e_nf, reduceCtorEq, implies_true, ↓reduceIte, Nat.reduceEqDiff, Nat.reduceAdd, Nat.reduceMul, Nat.reduceSub, Nat.reduceLeDiff, Nat.reduceLT, Int.reduceLT, Int.reduceLE, Int.reduceEq, Int.reduceToNat, Int.reduceAdd, Int.reduceSub, Int.reduceNeg, Int.reduceBEq, Int.reduceBNe, Nat.reduceBEq, Int.cast_ofNat_Int, decide_true, decide_false, ne_eq, eq_self_iff_true, beq_eq_false_iff_ne, bne_iff_ne, List.replicate, len_cast, *]))))
    all_goals (simp_all)

def encCn (e : Ev) : List DV := [.str e.txt, .int .i64 e.n, .int .i64 e.target, .bool e.thread, .str e.via, .sl 1 (e.allow.map encS), .sl 1 (e.deny.map encS),
  .sl 2 (e.lv.users.map encLU), .sl 2 (e.lv.kinds.map encLK), .int .i64 e.lv.a2, .int .i64 e.lv.a3, .int .i64 e.lv.a4, .int .i64 e.lv.a5, .int .i64 e.lv.a6, .int .i64 e.lv.a7, .int .i64 e.lv.a8]
def cnEq (a b : Ev) : Prop := a.txt = b.txt ∧ a.n = b.n ∧ a.target = b.target ∧ a.thread = b.thread ∧ a.via = b.via ∧ a.allow = b.allow ∧ a.deny = b.deny ∧ a.lv = b.lv
instance (a b : Ev) : Decidable (cnEq a b) := by unfold cnEq; infer_instance
theorem Lv_eq (a b : Lv) : (a = b) = (a.users = b.users ∧ a.kinds = b.kinds ∧ a.a2 = b.a2 ∧ a.a3 = b.a3 ∧ a.a4 = b.a4 ∧ a.a5 = b.a5 ∧ a.a6 = b.a6 ∧ a.a7 = b.a7 ∧ a.a8 = b.a8) := by cases a; cases b; simp
theorem Ev_eq (a b : Ev) : (a = b) = (a.ident = b.ident ∧ a.room = b.room ∧ a.sender = b.sender ∧ a.kind = b.kind ∧ a.isState = b.isState ∧ a.key = b.key ∧ a.time = b.time ∧ a.depth = b.depth ∧ a.prev = b.prev ∧ a.auth = b.auth ∧ cnEq a b ∧ a.hash = b.hash ∧ a.sigS = b.sigS ∧ a.sigN = b.sigN) := by
  cases a; cases b
  simp only [Ev.mk.injEq, cnEq]
  apply propext
  constructor
  · rintro ⟨h1, h2, h3, h4, h5, h6, h7, h8, h9, h10, h11, h12, h13, h14, h15, h16, h17, h18, h19, h20, h21⟩
    exact ⟨h1, h2, h3, h4, h5, h6, h7, h8, h9, h10, ⟨h11, h12, h13, h14, h15, h16, h17, h18⟩, h19, h20, h21⟩
  · rintro ⟨h1, h2, h3, h4, h5, h6, h7, h8, h9, h10, ⟨h11, h12, h13, h14, h15, h16, h17, h18⟩, h19, h20, h21⟩
    exact ⟨h1, h2, h3, h4, h5, h6, h7, h8, h9, h10, h11, h12, h13, h14, h15, h16, h17, h18, h19, h20, h21⟩
def ac36 : AC := (.seq (.ops [⟨(some 4), none, (.mv (.c (.bool false)))⟩]) (.seq (.seq (.ops [⟨(some 6), none, (.mv (.t 0))⟩, ⟨(some 7), none, (.len (.t 6))⟩, ⟨(some 8), none, (.mv (.t 1))⟩, ⟨(some 9), none, (.len (.t 8))⟩, ⟨(some 10), none, (.bin .neq (.t 7) (.t 9))⟩]) (.cond (.t 10) (.seq (.ops [⟨(some 4), none, (.mv (.c (.bool false)))⟩]) .ret) .skip)) (.seq (.seq (.ops [⟨(some 5), none, (.mv (.c (.int .i64 0)))⟩]) (.block 0 (.loop (.seq (.seq (.ops [⟨(some 11), none, (.mv (.t 5))⟩, ⟨(some 12), none, (.mv (.t 0))⟩, ⟨(some 13), none, (.len (.t 12))⟩, ⟨(some 14), none, (.bin .lss (.t 11) (.t 13))⟩]) (.cond (.t 14) .skip (.exit 0))) (.seq (.block 1 (.seq (.draw (.q false ⟨(some 17), none, (.mv (.t 0))⟩ (.q false ⟨(some 18), none, (.mv (.t 5))⟩ (.q false ⟨(some 19), none, (.ix 1 (.t 17) (.t 18))⟩ (.q false ⟨(some 20), none, (.ld false 1 (.t 19))⟩ (.q false ⟨(some 21), none, (.mv (.t 1))⟩ (.q false ⟨(some 22), none, (.mv (.t 5))⟩ (.q false ⟨(some 23), none, (.ix 1 (.t 21) (.t 22))⟩ (.q false ⟨(some 24), none, (.ld false 1 (.t 23))⟩ (.q false ⟨(some 25), none, (.bin .neq (.t 20) (.t 24))⟩ .nil)))))))))) (.cond (.t 25) (.seq (.ops [⟨(some 4), none, (.mv (.c (.bool false)))⟩]) .ret) .skip))) (.ops [⟨(some 15), none, (.mv (.t 5))⟩, ⟨(some 16), none, (.bin .add (.t 15) (.c (.int .i64 1)))⟩, ⟨(some 5), none, (.mv (.t 16))⟩])))))) (.seq (.ops [⟨(some 4), none, (.mv (.c (.bool true)))⟩]) .ret))))
theorem tr36 : Try.f36.body.bind (trCode Try.prog) = some (strip ac36) := by kernel_rfl
theorem spec36 (a b : List Int) : Spec Try.prog 36 [.fz (.sl 1 (a.map encN)), .fz (.sl 1 (b.map encN))] (.fz (.bool (decide (a = b)))) := by
  refine spec_at (n := 24) (ars := [(.t 4)]) (ac := ac36) Try.func36 (by kernel_rfl) (by kernel_rfl) tr36 (by kernel_rfl) ?_
  unfold ac36
  simp -implicitDefEqProofs only [SD, SF, SL, e_nf, reduceCtorEq, implies_true, ↓reduceIte, Nat.reduceEqDiff, Nat.reduceAdd, Nat.reduceMul, Nat.reduceSub, Nat.reduceLeDiff, Nat.reduceLT, Int.reduceLT, Int.reduceLE, Int.reduceEq, Int.reduceToNat, Int.reduceAdd, Int.reduceSub, Int.reduceNeg, Int.reduceBEq, Int.reduceBNe, Nat.reduceBEq, Int.cast_ofNat_Int, decide_true, decide_false, ne_eq, eq_self_iff_true, beq_eq_false_iff_ne, bne_iff_ne, List.replicate, len_cast]
  intro _ _
  by_cases h : a.length = b.length
  · obtain ⟨z, rfl, rfl⟩ := zip_of_len h
    rw [eqz_dec]
    simp -implicitDefEqProofs only [SD, SF, SL, e_nf, reduceCtorEq, implies_true, ↓reduceIte, Nat.reduceEqDiff, Nat.reduceAdd, Nat.reduceMul, Nat.reduceSub, Nat.reduceLeDiff, Nat.reduceLT, Int.reduceLT, Int.reduceLE, Int.reduceEq, Int.reduceToNat, Int.reduceAdd, Int.reduceSub, Int.reduceNeg, Int.reduceBEq, Int.reduceBNe, Nat.reduceBEq, Int.cast_ofNat_Int, decide_true, decide_false, ne_eq, eq_self_iff_true, beq_eq_false_iff_ne, bne_iff_ne, List.replicate, len_cast, h]
    refine loop_q (X := List (Int × Int) × List (Int × Int) × Unit) (fun n x => z = x.1 ++ x.2.1 ∧ n = x.2.1.length ∧ (eqz x.1)) (fun x => [(5, .int .i64 x.1.length)]) (fun _ => []) [4, 11, 12, 13, 14, 15, 16, 17, 18, 19, 20, 21, 22, 23, 24, 25] []  (z).length ([], z, ()) ⟨rfl, rfl, by first | rfl | assumption | (simp_all [eqz_end, eqz_mid, eqz_nil]; done) | grind [eqz_end, eqz_mid, eqz_nil]⟩ ?_ ?_
    · simp -implicitDefEqProofs only [SD, SF, SL, e_nf, reduceCtorEq, implies_true, ↓reduceIte, Nat.reduceEqDiff, Nat.reduceAdd, Nat.reduceMul, Nat.reduceSub, Nat.reduceLeDiff, Nat.reduceLT, Int.reduceLT, Int.reduceLE, Int.reduceEq, Int.reduceToNat, Int.reduceAdd, Int.reduceSub, Int.reduceNeg, Int.reduceBEq, Int.reduceBNe, Nat.reduceBEq, Int.cast_ofNat_Int, decide_true, decide_false, ne_eq, eq_self_iff_true, beq_eq_false_iff_ne, bne_iff_ne, List.replicate, eqz_end, eqz_mid, eqz_nil] <;> simp
    · rintro n ⟨pre, rest, a⟩ ⟨he, rfl, hI⟩
      dsimp only at he hI
      cases rest with
      | nil =>
        obtain rfl : z = pre := by simpa using he
        clear he
        have hlt : ¬ (((z).length : Int) < ((z).length : Int)) := Int.lt_irrefl _
        iterate 30 (all_goals (try (first
          | (with_reducible refine ite_in (fun _ => ?_) (fun _ => ?_))
          | (with_reducible refine ⟨fun _ => ?_, fun _ => ?_⟩)
          | (with_reducible refine And.intro ?_ ?_)
          | (with_reducible intro _)
          | (with_reducible exact is_in _)
          | (simp -implicitDefEqProofs only [SD, SF, SL, e_nf, reduceCtorEq, implies_true, ↓reduceIte, Nat.reduceEqDiff, Nat.reduceAdd, Nat.reduceMul, Nat.reduceSub, Nat.reduceLeDiff, Nat.reduceLT, Int.reduceLT, Int.reduceLE, Int.reduceEq, Int.reduceToNat, Int.reduceAdd, Int.reduceSub, Int.reduceNeg, Int.reduceBEq, Int.reduceBNe, Nat.reduceBEq, Int.cast_ofNat_Int, decide_true, decide_false, ne_eq, eq_self_iff_true, beq_eq_false_iff_ne, bne_iff_ne, List.replicate, eqz_end, eqz_mid, eqz_nil, *]))))
        all_goals (simp_all [eqz_end, eqz_mid, eqz_nil])

      | cons x rest =>
        have hlt := cut_lt he
        have hx := cutD1 encN he
        have hy := cutD2 encN he
        have hez := eqz_mid pre x rest
        rw [← he] at hez
        simp only [encN] at hx hy
        simp -implicitDefEqProofs only [SD, SF, SL, e_nf, reduceCtorEq, implies_true, ↓reduceIte, Nat.reduceEqDiff, Nat.reduceAdd, Nat.reduceMul, Nat.reduceSub, Nat.reduceLeDiff, Nat.reduceLT, Int.reduceLT, Int.reduceLE, Int.reduceEq, Int.reduceToNat, Int.reduceAdd, Int.reduceSub, Int.reduceNeg, Int.reduceBEq, Int.reduceBNe, Nat.reduceBEq, Int.cast_ofNat_Int, decide_true, decide_false, ne_eq, eq_self_iff_true, beq_eq_false_iff_ne, bne_iff_ne, List.replicate, eqz_end, eqz_mid, eqz_nil, hlt]
        intro hl
        have hw := wrap_len (n := pre.length) (m := (z).length) (cut_lt' he) (by simpa using hl)
        replace he := Hd.mk he
        iterate 30 (all_goals (try (first
          | ((with_reducible refine back_in rest.length [4, 11, 12, 13, 14, 15, 16, 17, 18, 19, 20, 21, 22, 23, 24, 25] [] (pre ++ [x], rest, a) ?_ ⟨?_, ?_, ?_⟩ ?_)
             · simp
             · exact cut_snoc he.out
             · rfl
             · first | rfl | assumption | (simp_all [eqz_end, eqz_mid, eqz_nil]; done) | grind [eqz_end, eqz_mid, eqz_nil]
             · first | (simp -implicitDefEqProofs only [SD, SF, SL, e_nf, reduceCtorEq, implies_true, ↓reduceIte, Nat.reduceEqDiff, Nat.reduceAdd, Nat.reduceMul, Nat.reduceSub, Nat.reduceLeDiff, Nat.reduceLT, Int.reduceLT, Int.reduceLE, Int.reduceEq, Int.reduceToNat, Int.reduceAdd, Int.reduceSub, Int.reduceNeg, Int.reduceBEq, Int.reduceBNe, Nat.reduceBEq, Int.cast_ofNat_Int, decide_true, decide_false, ne_eq, eq_self_iff_true, beq_eq_false_iff_ne, bne_iff_ne, List.replicate, eqz_end, eqz_mid, eqz_nil] <;> simp <;> done) | (simp -implicitDefEqProofs only [SD, SF, SL, e_nf, reduceCtorEq, implies_true, ↓reduceIte, Nat.reduceEqDiff, Nat.reduceAdd, Nat.reduceMul, Nat.reduceSub, Nat.reduceLeDiff, Nat.reduceLT, Int.reduceLT, Int.reduceLE, Int.reduceEq, Int.reduceToNat, Int.reduceAdd, Int.reduceSub, Int.reduceNeg, Int.reduceBEq, Int.reduceBNe, Nat.reduceBEq, Int.cast_ofNat_Int, decide_true, decide_false, ne_eq, eq_self_iff_true, beq_eq_false_iff_ne, bne_iff_ne, List.replicate, eqz_end, eqz_mid, eqz_nil, *] <;> simp_all <;> done))
          | (with_reducible refine ite_in (fun _ => ?_) (fun _ => ?_))
          | (with_reducible refine ⟨fun _ => ?_, fun _ => ?_⟩)
          | (with_reducible refine And.intro ?_ ?_)
          | (with_reducible intro _)
          | (with_reducible exact is_in _)
          | (simp -implicitDefEqProofs only [SD, SF, SL, e_nf, reduceCtorEq, implies_true, ↓reduceIte, Nat.reduceEqDiff, Nat.reduceAdd, Nat.reduceMul, Nat.reduceSub, Nat.reduceLeDiff, Nat.reduceLT, Int.reduceLT, Int.reduceLE, Int.reduceEq, Int.reduceToNat, Int.reduceAdd, Int.reduceSub, Int.reduceNeg, Int.reduceBEq, Int.reduceBNe, Nat.reduceBEq, Int.cast_ofNat_Int, decide_true, decide_false, ne_eq, eq_self_iff_true, beq_eq_false_iff_ne, bne_iff_ne, List.replicate, eqz_end, eqz_mid, eqz_nil, *]))))
        all_goals (simp_all [eqz_end, eqz_mid, eqz_nil])
  · have hne : a ≠ b := fun e => h (by rw [e])
    iterate 30 (all_goals (try (first
      | (with_reducible refine ite_in (fun _ => ?_) (fun _ => ?_))
      | (with_reducible refine ⟨fun _ => ?_, fun _ => ?_⟩)
      | (with_reducible refine And.intro ?_ ?_)
      | (with_reducible intro _)
      | (with_reducible exact is_in _)
      | (simp -implicitDefEqProofs only [SD, SF, SL, e_nf, reduceCtorEq, implies_true, ↓reduceIte, Nat.reduceEqDiff, Nat.reduceAdd, Nat.reduceMul, Nat.reduceSub, Nat.reduceLeDiff, Nat.reduceLT, Int.reduceLT, Int.reduceLE, Int.reduceEq, Int.reduceToNat, Int.reduceAdd, Int.reduceSub, Int.reduceNeg, Int.reduceBEq, Int.reduceBNe, Nat.reduceBEq, Int.cast_ofNat_Int, decide_true, decide_false, ne_eq, eq_self_iff_true, beq_eq_false_iff_ne, bne_iff_ne, List.replicate, len_cast, *]))))
    all_goals (simp_all)
def ac45 : AC := (.seq (.ops [⟨(some 4), none, (.mv (.c (.bool false)))⟩]) (.seq (.seq (.ops [⟨(some 6), none, (.mv (.t 0))⟩, ⟨(some 7), none, (.len (.t 6))⟩, ⟨(some 8), none, (.mv (.t 1))⟩, ⟨(some 9), none, (.len (.t 8))⟩, ⟨(some 10), none, (.bin .neq (.t 7) (.t 9))⟩]) (.cond (.t 10) (.seq (.ops [⟨(some 4), none, (.mv (.c (.bool false)))⟩]) .ret) .skip)) (.seq (.seq (.ops [⟨(some 5), none, (.mv (.c (.int .i64 0)))⟩]) (.block 0 (.loop (.seq (.seq (.ops [⟨(some 11), none, (.mv (.t 5))⟩, ⟨(some 12), none, (.mv (.t 0))⟩, ⟨(some 13), none, (.len (.t 12))⟩, ⟨(some 14), none, (.bin .lss (.t 11) (.t 13))⟩]) (.cond (.t 14) .skip (.exit 0))) (.seq (.block 1 (.seq (.draw (.q false ⟨(some 17), none, (.mv (.t 0))⟩ (.q false ⟨(some 18), none, (.mv (.t 5))⟩ (.q false ⟨(some 19), none, (.ix 1 (.t 17) (.t 18))⟩ (.q false ⟨(some 20), none, (.ld false 1 (.t 19))⟩ (.q false ⟨(some 21), none, (.mv (.t 1))⟩ (.q false ⟨(some 22), none, (.mv (.t 5))⟩ (.q false ⟨(some 23), none, (.ix 1 (.t 21) (.t 22))⟩ (.q false ⟨(some 24), none, (.ld false 1 (.t 23))⟩ (.q false ⟨(some 25), none, (.bin .neq (.t 20) (.t 24))⟩ .nil)))))))))) (.cond (.t 25) (.seq (.ops [⟨(some 4), none, (.mv (.c (.bool false)))⟩]) .ret) .skip))) (.ops [⟨(some 15), none, (.mv (.t 5))⟩, ⟨(some 16), none, (.bin .add (.t 15) (.c (.int .i64 1)))⟩, ⟨(some 5), none, (.mv (.t 16))⟩])))))) (.seq (.ops [⟨(some 4), none, (.mv (.c (.bool true)))⟩]) .ret))))
theorem tr45 : Try.f45.body.bind (trCode Try.prog) = some (strip ac45) := by kernel_rfl
theorem spec45 (a b : List (List UInt8)) : Spec Try.prog 45 [.fz (.sl 1 (a.map encS)), .fz (.sl 1 (b.map encS))] (.fz (.bool (decide (a = b)))) := by
  refine spec_at (n := 24) (ars := [(.t 4)]) (ac := ac45) Try.func45 (by kernel_rfl) (by kernel_rfl) tr45 (by kernel_rfl) ?_
  unfold ac45
  simp -implicitDefEqProofs only [SD, SF, SL, e_nf, reduceCtorEq, implies_true, ↓reduceIte, Nat.reduceEqDiff, Nat.reduceAdd, Nat.reduceMul, Nat.reduceSub, Nat.reduceLeDiff, Nat.reduceLT, Int.reduceLT, Int.reduceLE, Int.reduceEq, Int.reduceToNat, Int.reduceAdd, Int.reduceSub, Int.reduceNeg, Int.reduceBEq, Int.reduceBNe, Nat.reduceBEq, Int.cast_ofNat_Int, decide_true, decide_false, ne_eq, eq_self_iff_true, beq_eq_false_iff_ne, bne_iff_ne, List.replicate, len_cast]
  intro _ _
  by_cases h : a.length = b.length
  · obtain ⟨z, rfl, rfl⟩ := zip_of_len h
    rw [eqz_dec]
    simp -implicitDefEqProofs only [SD, SF, SL, e_nf, reduceCtorEq, implies_true, ↓reduceIte, Nat.reduceEqDiff, Nat.reduceAdd, Nat.reduceMul, Nat.reduceSub, Nat.reduceLeDiff, Nat.reduceLT, Int.reduceLT, Int.reduceLE, Int.reduceEq, Int.reduceToNat, Int.reduceAdd, Int.reduceSub, Int.reduceNeg, Int.reduceBEq, Int.reduceBNe, Nat.reduceBEq, Int.cast_ofNat_Int, decide_true, decide_false, ne_eq, eq_self_iff_true, beq_eq_false_iff_ne, bne_iff_ne, List.replicate, len_cast, h]
    refine loop_q (X := List ((List UInt8) × (List UInt8)) × List ((List UInt8) × (List UInt8)) × Unit) (fun n x => z = x.1 ++ x.2.1 ∧ n = x.2.1.length ∧ (eqz x.1)) (fun x => [(5, .int .i64 x.1.length)]) (fun _ => []) [4, 11, 12, 13, 14, 15, 16, 17, 18, 19, 20, 21, 22, 23, 24, 25] []  (z).length ([], z, ()) ⟨rfl, rfl, by first | rfl | assumption | (simp_all [eqz_end, eqz_mid, eqz_nil]; done) | grind [eqz_end, eqz_mid, eqz_nil]⟩ ?_ ?_
    · simp -implicitDefEqProofs only [SD, SF, SL, e_nf, reduceCtorEq, implies_true, ↓reduceIte, Nat.reduceEqDiff, Nat.reduceAdd, Nat.reduceMul, Nat.reduceSub, Nat.reduceLeDiff, Nat.reduceLT, Int.reduceLT, Int.reduceLE, Int.reduceEq, Int.reduceToNat, Int.reduceAdd, Int.reduceSub, Int.reduceNeg, Int.reduceBEq, Int.reduceBNe, Nat.reduceBEq, Int.cast_ofNat_Int, decide_true, decide_false, ne_eq, eq_self_iff_true, beq_eq_false_iff_ne, bne_iff_ne, List.replicate, eqz_end, eqz_mid, eqz_nil] <;> simp
    · rintro n ⟨pre, rest, a⟩ ⟨he, rfl, hI⟩
      dsimp only at he hI
      cases rest with
      | nil =>
        obtain rfl : z = pre := by simpa using he
        clear he
        have hlt : ¬ (((z).length : Int) < ((z).length : Int)) := Int.lt_irrefl _
        iterate 30 (all_goals (try (first
          | (with_reducible refine ite_in (fun _ => ?_) (fun _ => ?_))
          | (with_reducible refine ⟨fun _ => ?_, fun _ => ?_⟩)
          | (with_reducible refine And.intro ?_ ?_)
          | (with_reducible intro _)
          | (with_reducible exact is_in _)
          | (simp -implicitDefEqProofs only [SD, SF, SL, e_nf, reduceCtorEq, implies_true, ↓reduceIte, Nat.reduceEqDiff, Nat.reduceAdd, Nat.reduceMul, Nat.reduceSub, Nat.reduceLeDiff, Nat.reduceLT, Int.reduceLT, Int.reduceLE, Int.reduceEq, Int.reduceToNat, Int.reduceAdd, Int.reduceSub, Int.reduceNeg, Int.reduceBEq, Int.reduceBNe, Nat.reduceBEq, Int.cast_ofNat_Int, decide_true, decide_false, ne_eq, eq_self_iff_true, beq_eq_false_iff_ne, bne_iff_ne, List.replicate, eqz_end, eqz_mid, eqz_nil, *]))))
        all_goals (simp_all [eqz_end, eqz_mid, eqz_nil])

      | cons x rest =>
        have hlt := cut_lt he
        have hx := cutD1 encS he
        have hy := cutD2 encS he
        have hez := eqz_mid pre x rest
        rw [← he] at hez
        simp only [encS] at hx hy
        simp -implicitDefEqProofs only [SD, SF, SL, e_nf, reduceCtorEq, implies_true, ↓reduceIte, Nat.reduceEqDiff, Nat.reduceAdd, Nat.reduceMul, Nat.reduceSub, Nat.reduceLeDiff, Nat.reduceLT, Int.reduceLT, Int.reduceLE, Int.reduceEq, Int.reduceToNat, Int.reduceAdd, Int.reduceSub, Int.reduceNeg, Int.reduceBEq, Int.reduceBNe, Nat.reduceBEq, Int.cast_ofNat_Int, decide_true, decide_false, ne_eq, eq_self_iff_true, beq_eq_false_iff_ne, bne_iff_ne, List.replicate, eqz_end, eqz_mid, eqz_nil, hlt]
        intro hl
        have hw := wrap_len (n := pre.length) (m := (z).length) (cut_lt' he) (by simpa using hl)
        replace he := Hd.mk he
        iterate 30 (all_goals (try (first
          | ((with_reducible refine back_in rest.length [4, 11, 12, 13, 14, 15, 16, 17, 18, 19, 20, 21, 22, 23, 24, 25] [] (pre ++ [x], rest, a) ?_ ⟨?_, ?_, ?_⟩ ?_)
             · simp
             · exact cut_snoc he.out
             · rfl
             · first | rfl | assumption | (simp_all [eqz_end, eqz_mid, eqz_nil]; done) | grind [eqz_end, eqz_mid, eqz_nil]
             · first | (simp -implicitDefEqProofs only [SD, SF, SL, e_nf, reduceCtorEq, implies_true, ↓reduceIte, Nat.reduceEqDiff, Nat.reduceAdd, Nat.reduceMul, Nat.reduceSub, Nat.reduceLeDiff, Nat.reduceLT, Int.reduceLT, Int.reduceLE, Int.reduceEq, Int.reduceToNat, Int.reduceAdd, Int.reduceSub, Int.reduceNeg, Int.reduceBEq, Int.reduceBNe, Nat.reduceBEq, Int.cast_ofNat_Int, decide_true, decide_false, ne_eq, eq_self_iff_true, beq_eq_false_iff_ne, bne_iff_ne, List.replicate, eqz_end, eqz_mid, eqz_nil] <;> simp <;> done) | (simp -implicitDefEqProofs only [SD, SF, SL, e_nf, reduceCtorEq, implies_true, ↓reduceIte, Nat.reduceEqDiff, Nat.reduceAdd, Nat.reduceMul, Nat.reduceSub, Nat.reduceLeDiff, Nat.reduceLT, Int.reduceLT, Int.reduceLE, Int.reduceEq, Int.reduceToNat, Int.reduceAdd, Int.reduceSub, Int.reduceNeg, Int.reduceBEq, Int.reduceBNe, Nat.reduceBEq, Int.cast_ofNat_Int, decide_true, decide_false, ne_eq, eq_self_iff_true, beq_eq_false_iff_ne, bne_iff_ne, List.replicate, eqz_end, eqz_mid, eqz_nil, *] <;> simp_all <;> done))
          | (with_reducible refine ite_in (fun _ => ?_) (fun _ => ?_))
          | (with_reducible refine ⟨fun _ => ?_, fun _ => ?_⟩)
          | (with_reducible refine And.intro ?_ ?_)
          | (with_reducible intro _)
          | (with_reducible exact is_in _)
          | (simp -implicitDefEqProofs only [SD, SF, SL, e_nf, reduceCtorEq, implies_true, ↓reduceIte, Nat.reduceEqDiff, Nat.reduceAdd, Nat.reduceMul, Nat.reduceSub, Nat.reduceLeDiff, Nat.reduceLT, Int.reduceLT, Int.reduceLE, Int.reduceEq, Int.reduceToNat, Int.reduceAdd, Int.reduceSub, Int.reduceNeg, Int.reduceBEq, Int.reduceBNe, Nat.reduceBEq, Int.cast_ofNat_Int, decide_true, decide_false, ne_eq, eq_self_iff_true, beq_eq_false_iff_ne, bne_iff_ne, List.replicate, eqz_end, eqz_mid, eqz_nil, *]))))
        all_goals (simp_all [eqz_end, eqz_mid, eqz_nil])
  · have hne : a ≠ b := fun e => h (by rw [e])
    iterate 30 (all_goals (try (first
      | (with_reducible refine ite_in (fun _ => ?_) (fun _ => ?_))
      | (with_reducible refine ⟨fun _ => ?_, fun _ => ?_⟩)
      | (with_reducible refine And.intro ?_ ?_)
      | (with_reducible intro _)
      | (with_reducible exact is_in _)
      | (simp -implicitDefEqProofs only [SD, SF, SL, e_nf, reduceCtorEq, implies_true, ↓reduceIte, Nat.reduceEqDiff, Nat.reduceAdd, Nat.reduceMul, Nat.reduceSub, Nat.reduceLeDiff, Nat.reduceLT, Int.reduceLT, Int.reduceLE, Int.reduceEq, Int.reduceToNat, Int.reduceAdd, Int.reduceSub, Int.reduceNeg, Int.reduceBEq, Int.reduceBNe, Nat.reduceBEq, Int.cast_ofNat_Int, decide_true, decide_false, ne_eq, eq_self_iff_true, beq_eq_false_iff_ne, bne_iff_ne, List.replicate, len_cast, *]))))
    all_goals (simp_all)
def ac46 : AC := (.seq (.ops [⟨(some 2), none, (.box (.t 0))⟩, ⟨(some 3), none, (.box (.t 1))⟩, ⟨(some 4), none, (.mv (.c (.bool false)))⟩]) (.seq (.seq (.ops [⟨(some 7), none, (.fld 0 (.t 2))⟩, ⟨(some 8), none, (.ld false 1 (.t 7))⟩, ⟨(some 9), none, (.len (.t 8))⟩, ⟨(some 10), none, (.fld 0 (.t 3))⟩, ⟨(some 11), none, (.ld false 1 (.t 10))⟩, ⟨(some 12), none, (.len (.t 11))⟩, ⟨(some 13), none, (.bin .neq (.t 9) (.t 12))⟩, ⟨(some 14), none, (.mv (.t 13))⟩, ⟨(some 15), (some (14, false)), (.fld 1 (.t 2))⟩, ⟨(some 16), (some (14, false)), (.ld false 1 (.t 15))⟩, ⟨(some 17), (some (14, false)), (.len (.t 16))⟩, ⟨(some 18), (some (14, false)), (.fld 1 (.t 3))⟩, ⟨(some 19), (some (14, false)), (.ld false 1 (.t 18))⟩, ⟨(some 20), (some (14, false)), (.len (.t 19))⟩, ⟨(some 21), (some (14, false)), (.bin .neq (.t 17) (.t 20))⟩, ⟨(some 22), none, (.pick (.t 14) (.c (.bool true)) (.t 21))⟩]) (.cond (.t 22) (.seq (.ops [⟨(some 4), none, (.mv (.c (.bool false)))⟩]) .ret) .skip)) (.seq (.seq (.ops [⟨(some 5), none, (.mv (.c (.int .i64 0)))⟩]) (.block 0 (.loop (.seq (.seq (.ops [⟨(some 23), none, (.mv (.t 5))⟩, ⟨(some 24), none, (.fld 0 (.t 2))⟩, ⟨(some 25), none, (.ld false 1 (.t 24))⟩, ⟨(some 26), none, (.len (.t 25))⟩, ⟨(some 27), none, (.bin .lss (.t 23) (.t 26))⟩]) (.cond (.t 27) .skip (.exit 0))) (.seq (.block 1 (.seq (.draw (.q false ⟨(some 30), none, (.fld 0 (.t 2))⟩ (.q false ⟨(some 31), none, (.ld false 1 (.t 30))⟩ (.q false ⟨(some 32), none, (.mv (.t 5))⟩ (.q false ⟨(some 33), none, (.ix 2 (.t 31) (.t 32))⟩ (.q false ⟨(some 34), none, (.fld 0 (.t 33))⟩ (.q false ⟨(some 35), none, (.ld false 1 (.t 34))⟩ (.q false ⟨(some 36), none, (.fld 0 (.t 3))⟩ (.q false ⟨(some 37), none, (.ld false 1 (.t 36))⟩ (.q false ⟨(some 38), none, (.mv (.t 5))⟩ (.q false ⟨(some 39), none, (.ix 2 (.t 37) (.t 38))⟩ (.q false ⟨(some 40), none, (.fld 0 (.t 39))⟩ (.q false ⟨(some 41), none, (.ld false 1 (.t 40))⟩ (.q false ⟨(some 42), none, (.bin .neq (.t 35) (.t 41))⟩ (.q false ⟨(some 43), none, (.mv (.t 42))⟩ (.q false ⟨(some 44), (some (43, false)), (.fld 0 (.t 2))⟩ (.q false ⟨(some 45), (some (43, false)), (.ld false 1 (.t 44))⟩ (.q false ⟨(some 46), (some (43, false)), (.mv (.t 5))⟩ (.q false ⟨(some 47), (some (43, false)), (.ix 2 (.t 45) (.t 46))⟩ (.q false ⟨(some 48), (some (43, false)), (.fld 1 (.t 47))⟩ (.q false ⟨(some 49), (some (43, false)), (.ld false 1 (.t 48))⟩ (.q false ⟨(some 50), (some (43, false)), (.fld 0 (.t 3))⟩ (.q false ⟨(some 51), (some (43, false)), (.ld false 1 (.t 50))⟩ (.q false ⟨(some 52), (some (43, false)), (.mv (.t 5))⟩ (.q false ⟨(some 53), (some (43, false)), (.ix 2 (.t 51) (.t 52))⟩ (.q false ⟨(some 54), (some (43, false)), (.fld 1 (.t 53))⟩ (.q false ⟨(some 55), (some (43, false)), (.ld false 1 (.t 54))⟩ (.q false ⟨(some 56), (some (43, false)), (.bin .neq (.t 49) (.t 55))⟩ (.q false ⟨(some 57), none, (.pick (.t 43) (.c (.bool true)) (.t 56))⟩ .nil))))))))))))))))))))))))))))) (.cond (.t 57) (.seq (.ops [⟨(some 4), none, (.mv (.c (.bool false)))⟩]) .ret) .skip))) (.ops [⟨(some 28), none, (.mv (.t 5))⟩, ⟨(some 29), none, (.bin .add (.t 28) (.c (.int .i64 1)))⟩, ⟨(some 5), none, (.mv (.t 29))⟩])))))) (.seq (.seq (.ops [⟨(some 6), none, (.mv (.c (.int .i64 0)))⟩]) (.block 2 (.loop (.seq (.seq (.ops [⟨(some 58), none, (.mv (.t 6))⟩, ⟨(some 59), none, (.fld 1 (.t 2))⟩, ⟨(some 60), none, (.ld false 1 (.t 59))⟩, ⟨(some 61), none, (.len (.t 60))⟩, ⟨(some 62), none, (.bin .lss (.t 58) (.t 61))⟩]) (.cond (.t 62) .skip (.exit 2))) (.seq (.block 3 (.seq (.draw (.q false ⟨(some 65), none, (.fld 1 (.t 2))⟩ (.q false ⟨(some 66), none, (.ld false 1 (.t 65))⟩ (.q false ⟨(some 67), none, (.mv (.t 6))⟩ (.q false ⟨(some 68), none, (.ix 2 (.t 66) (.t 67))⟩ (.q false ⟨(some 69), none, (.fld 0 (.t 68))⟩ (.q false ⟨(some 70), none, (.ld false 1 (.t 69))⟩ (.q false ⟨(some 71), none, (.fld 1 (.t 3))⟩ (.q false ⟨(some 72), none, (.ld false 1 (.t 71))⟩ (.q false ⟨(some 73), none, (.mv (.t 6))⟩ (.q false ⟨(some 74), none, (.ix 2 (.t 72) (.t 73))⟩ (.q false ⟨(some 75), none, (.fld 0 (.t 74))⟩ (.q false ⟨(some 76), none, (.ld false 1 (.t 75))⟩ (.q false ⟨(some 77), none, (.bin .neq (.t 70) (.t 76))⟩ (.q false ⟨(some 78), none, (.mv (.t 77))⟩ (.q false ⟨(some 79), (some (78, false)), (.fld 1 (.t 2))⟩ (.q false ⟨(some 80), (some (78, false)), (.ld false 1 (.t 79))⟩ (.q false ⟨(some 81), (some (78, false)), (.mv (.t 6))⟩ (.q false ⟨(some 82), (some (78, false)), (.ix 2 (.t 80) (.t 81))⟩ (.q false ⟨(some 83), (some (78, false)), (.fld 1 (.t 82))⟩ (.q false ⟨(some 84), (some (78, false)), (.ld false 1 (.t 83))⟩ (.q false ⟨(some 85), (some (78, false)), (.fld 1 (.t 3))⟩ (.q false ⟨(some 86), (some (78, false)), (.ld false 1 (.t 85))⟩ (.q false ⟨(some 87), (some (78, false)), (.mv (.t 6))⟩ (.q false ⟨(some 88), (some (78, false)), (.ix 2 (.t 86) (.t 87))⟩ (.q false ⟨(some 89), (some (78, false)), (.fld 1 (.t 88))⟩ (.q false ⟨(some 90), (some (78, false)), (.ld false 1 (.t 89))⟩ (.q false ⟨(some 91), (some (78, false)), (.bin .neq (.t 84) (.t 90))⟩ (.q false ⟨(some 92), none, (.pick (.t 78) (.c (.bool true)) (.t 91))⟩ .nil))))))))))))))))))))))))))))) (.cond (.t 92) (.seq (.ops [⟨(some 4), none, (.mv (.c (.bool false)))⟩]) .ret) .skip))) (.ops [⟨(some 63), none, (.mv (.t 6))⟩, ⟨(some 64), none, (.bin .add (.t 63) (.c (.int .i64 1)))⟩, ⟨(some 6), none, (.mv (.t 64))⟩])))))) (.seq (.ops [⟨(some 93), none, (.fld 2 (.t 2))⟩, ⟨(some 94), none, (.ld false 1 (.t 93))⟩, ⟨(some 95), none, (.fld 2 (.t 3))⟩, ⟨(some 96), none, (.ld false 1 (.t 95))⟩, ⟨(some 97), none, (.bin .eql (.t 94) (.t 96))⟩, ⟨(some 98), none, (.mv (.t 97))⟩, ⟨(some 99), (some (98, true)), (.fld 3 (.t 2))⟩, ⟨(some 100), (some (98, true)), (.ld false 1 (.t 99))⟩, ⟨(some 101), (some (98, true)), (.fld 3 (.t 3))⟩, ⟨(some 102), (some (98, true)), (.ld false 1 (.t 101))⟩, ⟨(some 103), (some (98, true)), (.bin .eql (.t 100) (.t 102))⟩, ⟨(some 104), none, (.pick (.t 98) (.t 103) (.c (.bool false)))⟩, ⟨(some 105), none, (.mv (.t 104))⟩, ⟨(some 106), (some (105, true)), (.fld 4 (.t 2))⟩, ⟨(some 107), (some (105, true)), (.ld false 1 (.t 106))⟩, ⟨(some 108), (some (105, true)), (.fld 4 (.t 3))⟩, ⟨(some 109), (some (105, true)), (.ld false 1 (.t 108))⟩, ⟨(some 110), (some (105, true)), (.bin .eql (.t 107) (.t 109))⟩, ⟨(some 111), none, (.pick (.t 105) (.t 110) (.c (.bool false)))⟩, ⟨(some 112), none, (.mv (.t 111))⟩, ⟨(some 113), (some (112, true)), (.fld 5 (.t 2))⟩, ⟨(some 114), (some (112, true)), (.ld false 1 (.t 113))⟩, ⟨(some 115), (some (112, true)), (.fld 5 (.t 3))⟩, ⟨(some 116), (some (112, true)), (.ld false 1 (.t 115))⟩, ⟨(some 117), (some (112, true)), (.bin .eql (.t 114) (.t 116))⟩, ⟨(some 118), none, (.pick (.t 112) (.t 117) (.c (.bool false)))⟩, ⟨(some 119), none, (.mv (.t 118))⟩, ⟨(some 120), (some (119, true)), (.fld 6 (.t 2))⟩, ⟨(some 121), (some (119, true)), (.ld false 1 (.t 120))⟩, ⟨(some 122), (some (119, true)), (.fld 6 (.t 3))⟩, ⟨(some 123), (some (119, true)), (.ld false 1 (.t 122))⟩, ⟨(some 124), (some (119, true)), (.bin .eql (.t 121) (.t 123))⟩, ⟨(some 125), none, (.pick (.t 119) (.t 124) (.c (.bool false)))⟩, ⟨(some 126), none, (.mv (.t 125))⟩, ⟨(some 127), (some (126, true)), (.fld 7 (.t 2))⟩, ⟨(some 128), (some (126, true)), (.ld false 1 (.t 127))⟩, ⟨(some 129), (some (126, true)), (.fld 7 (.t 3))⟩, ⟨(some 130), (some (126, true)), (.ld false 1 (.t 129))⟩, ⟨(some 131), (some (126, true)), (.bin .eql (.t 128) (.t 130))⟩, ⟨(some 132), none, (.pick (.t 126) (.t 131) (.c (.bool false)))⟩, ⟨(some 133), none, (.mv (.t 132))⟩, ⟨(some 134), (some (133, true)), (.fld 8 (.t 2))⟩, ⟨(some 135), (some (133, true)), (.ld false 1 (.t 134))⟩, ⟨(some 136), (some (133, true)), (.fld 8 (.t 3))⟩, ⟨(some 137), (some (133, true)), (.ld false 1 (.t 136))⟩, ⟨(some 138), (some (133, true)), (.bin .eql (.t 135) (.t 137))⟩, ⟨(some 139), none, (.pick (.t 133) (.t 138) (.c (.bool false)))⟩, ⟨(some 4), none, (.mv (.t 139))⟩]) .ret)))))
theorem tr46 : Try.f46.body.bind (trCode Try.prog) = some (strip ac46) := by kernel_rfl
theorem spec46 (a b : Lv) : Spec Try.prog 46 [.fz (.agg (encLv a)), .fz (.agg (encLv b))] (.fz (.bool (decide (a = b)))) := by
  refine spec_at (n := 138) (ars := [(.t 4)]) (ac := ac46) Try.func46 (by kernel_rfl) (by kernel_rfl) tr46 (by kernel_rfl) ?_
  unfold ac46
  by_cases h : a.users.length = b.users.length ∧ a.kinds.length = b.kinds.length
  · obtain ⟨h1, h2⟩ := h
    obtain ⟨z1, e1, e2⟩ := zip_of_len h1
    obtain ⟨z2, e3, e4⟩ := zip_of_len h2
    obtain ⟨au, ak, a2, a3, a4, a5, a6, a7, a8⟩ := a
    obtain ⟨bu, bk, b2, b3, b4, b5, b6, b7, b8⟩ := b
    dsimp only at e1 e2 e3 e4
    subst e1 e2 e3 e4
    clear h1 h2
    have hdd : decide ((⟨z1.map Prod.fst, z2.map Prod.fst, a2, a3, a4, a5, a6, a7, a8⟩ : Lv) = ⟨z1.map Prod.snd, z2.map Prod.snd, b2, b3, b4, b5, b6, b7, b8⟩) = decide (eqz z1 ∧ eqz z2 ∧ a2 = b2 ∧ a3 = b3 ∧ a4 = b4 ∧ a5 = b5 ∧ a6 = b6 ∧ a7 = b7 ∧ a8 = b8) := by
      exact decide_eq_decide.2 (by simp only [Lv.mk.injEq, eqz])
    rw [hdd]
    clear hdd
    iterate 6 (all_goals (try (first
      | (with_reducible refine ite_in (fun _ => ?_) (fun _ => ?_))
      | (with_reducible refine ⟨fun _ => ?_, fun _ => ?_⟩)
      | (with_reducible refine And.intro ?_ ?_)
      | (with_reducible intro _)
      | (with_reducible exact is_in _)
      | (simp -implicitDefEqProofs only [SD, SF, SL, e_nf, reduceCtorEq, implies_true, ↓reduceIte, Nat.reduceEqDiff, Nat.reduceAdd, Nat.reduceMul, Nat.reduceSub, Nat.reduceLeDiff, Nat.reduceLT, Int.reduceLT, Int.reduceLE, Int.reduceEq, Int.reduceToNat, Int.reduceAdd, Int.reduceSub, Int.reduceNeg, Int.reduceBEq, Int.reduceBNe, Nat.reduceBEq, Int.cast_ofNat_Int, decide_true, decide_false, ne_eq, eq_self_iff_true, beq_eq_false_iff_ne, bne_iff_ne, List.replicate, encLv, len_cast, *]))))
    refine loop_q (X := List (LU × LU) × List (LU × LU) × Unit) (fun n x => z1 = x.1 ++ x.2.1 ∧ n = x.2.1.length ∧ (eqz x.1)) (fun x => [(5, .int .i64 x.1.length)]) (fun _ => []) [4, 23, 24, 25, 26, 27, 28, 29, 30, 31, 32, 33, 34, 35, 36, 37, 38, 39, 40, 41, 42, 43, 44, 45, 46, 47, 48, 49, 50, 51, 52, 53, 54, 55, 56, 57] []  (z1).length ([], z1, ()) ⟨rfl, rfl, by first | rfl | assumption | (simp_all [eqz_end, eqz_mid, eqz_nil, LU_eq]; done)⟩ ?_ ?_
    · simp -implicitDefEqProofs only [SD, SF, SL, e_nf, reduceCtorEq, implies_true, ↓reduceIte, Nat.reduceEqDiff, Nat.reduceAdd, Nat.reduceMul, Nat.reduceSub, Nat.reduceLeDiff, Nat.reduceLT, Int.reduceLT, Int.reduceLE, Int.reduceEq, Int.reduceToNat, Int.reduceAdd, Int.reduceSub, Int.reduceNeg, Int.reduceBEq, Int.reduceBNe, Nat.reduceBEq, Int.cast_ofNat_Int, decide_true, decide_false, ne_eq, eq_self_iff_true, beq_eq_false_iff_ne, bne_iff_ne, List.replicate, encLv, eqz_end, eqz_mid, eqz_nil] <;> simp
    · rintro n ⟨pre1, rest1, a1⟩ ⟨he1, rfl, hI1⟩
      dsimp only at he1 hI1
      cases rest1 with
      | nil =>
        obtain rfl : z1 = pre1 := by simpa using he1
        clear he1
        have hlt1 : ¬ (((z1).length : Int) < ((z1).length : Int)) := Int.lt_irrefl _
        iterate 30 (all_goals (try (first
          | (with_reducible refine ite_in (fun _ => ?_) (fun _ => ?_))
          | (with_reducible refine ⟨fun _ => ?_, fun _ => ?_⟩)
          | (with_reducible refine And.intro ?_ ?_)
          | (with_reducible intro _)
          | (with_reducible exact is_in _)
          | (simp -implicitDefEqProofs only [SD, SF, SL, e_nf, reduceCtorEq, implies_true, ↓reduceIte, Nat.reduceEqDiff, Nat.reduceAdd, Nat.reduceMul, Nat.reduceSub, Nat.reduceLeDiff, Nat.reduceLT, Int.reduceLT, Int.reduceLE, Int.reduceEq, Int.reduceToNat, Int.reduceAdd, Int.reduceSub, Int.reduceNeg, Int.reduceBEq, Int.reduceBNe, Nat.reduceBEq, Int.cast_ofNat_Int, decide_true, decide_false, ne_eq, eq_self_iff_true, beq_eq_false_iff_ne, bne_iff_ne, List.replicate, encLv, eqz_end, eqz_mid, eqz_nil, *]))))
        refine loop_q (X := List (LK × LK) × List (LK × LK) × Unit) (fun n x => z2 = x.1 ++ x.2.1 ∧ n = x.2.1.length ∧ (eqz x.1)) (fun x => [(6, .int .i64 x.1.length)]) (fun _ => []) [4, 58, 59, 60, 61, 62, 63, 64, 65, 66, 67, 68, 69, 70, 71, 72, 73, 74, 75, 76, 77, 78, 79, 80, 81, 82, 83, 84, 85, 86, 87, 88, 89, 90, 91, 92] []  (z2).length ([], z2, ()) ⟨rfl, rfl, by first | rfl | assumption | (simp_all [eqz_end, eqz_mid, eqz_nil, LK_eq]; done)⟩ ?_ ?_
        · simp -implicitDefEqProofs only [SD, SF, SL, e_nf, reduceCtorEq, implies_true, ↓reduceIte, Nat.reduceEqDiff, Nat.reduceAdd, Nat.reduceMul, Nat.reduceSub, Nat.reduceLeDiff, Nat.reduceLT, Int.reduceLT, Int.reduceLE, Int.reduceEq, Int.reduceToNat, Int.reduceAdd, Int.reduceSub, Int.reduceNeg, Int.reduceBEq, Int.reduceBNe, Nat.reduceBEq, Int.cast_ofNat_Int, decide_true, decide_false, ne_eq, eq_self_iff_true, beq_eq_false_iff_ne, bne_iff_ne, List.replicate, encLv, eqz_end, eqz_mid, eqz_nil] <;> simp
        · rintro n ⟨pre2, rest2, a2⟩ ⟨he2, rfl, hI2⟩
          dsimp only at he2 hI2
          cases rest2 with
          | nil =>
            obtain rfl : z2 = pre2 := by simpa using he2
            clear he2
            have hlt2 : ¬ (((z2).length : Int) < ((z2).length : Int)) := Int.lt_irrefl _
            iterate 30 (all_goals (try (first
              | (with_reducible refine ite_in (fun _ => ?_) (fun _ => ?_))
              | (with_reducible refine ⟨fun _ => ?_, fun _ => ?_⟩)
              | (with_reducible refine And.intro ?_ ?_)
              | (with_reducible intro _)
              | (with_reducible exact is_in _)
              | (simp -implicitDefEqProofs only [SD, SF, SL, e_nf, reduceCtorEq, implies_true, ↓reduceIte, Nat.reduceEqDiff, Nat.reduceAdd, Nat.reduceMul, Nat.reduceSub, Nat.reduceLeDiff, Nat.reduceLT, Int.reduceLT, Int.reduceLE, Int.reduceEq, Int.reduceToNat, Int.reduceAdd, Int.reduceSub, Int.reduceNeg, Int.reduceBEq, Int.reduceBNe, Nat.reduceBEq, Int.cast_ofNat_Int, decide_true, decide_false, ne_eq, eq_self_iff_true, beq_eq_false_iff_ne, bne_iff_ne, List.replicate, encLv, eqz_end, eqz_mid, eqz_nil, *]))))
            all_goals (first | (simp_all [Lv_eq, LU_eq, LK_eq, eqz_end, eqz_mid, eqz_nil]; done) | (simp_all [Lv_eq, LU_eq, LK_eq, eqz_end, eqz_mid, eqz_nil, eqz]; done))

          | cons x2 rest2 =>
            have hlt2 := cut_lt he2
            have hx2 := cutD1 encLK he2
            have hy2 := cutD2 encLK he2
            have hez2 := eqz_mid pre2 x2 rest2
            rw [← he2] at hez2
            simp only [encLK] at hx2 hy2
            simp -implicitDefEqProofs only [SD, SF, SL, e_nf, reduceCtorEq, implies_true, ↓reduceIte, Nat.reduceEqDiff, Nat.reduceAdd, Nat.reduceMul, Nat.reduceSub, Nat.reduceLeDiff, Nat.reduceLT, Int.reduceLT, Int.reduceLE, Int.reduceEq, Int.reduceToNat, Int.reduceAdd, Int.reduceSub, Int.reduceNeg, Int.reduceBEq, Int.reduceBNe, Nat.reduceBEq, Int.cast_ofNat_Int, decide_true, decide_false, ne_eq, eq_self_iff_true, beq_eq_false_iff_ne, bne_iff_ne, List.replicate, encLv, eqz_end, eqz_mid, eqz_nil, hlt2]
            intro hl
            have hw2 := wrap_len (n := pre2.length) (m := (z2).length) (cut_lt' he2) (by simpa using hl)
            replace he2 := Hd.mk he2
            iterate 30 (all_goals (try (first
              | ((with_reducible refine back_in rest2.length [4, 58, 59, 60, 61, 62, 63, 64, 65, 66, 67, 68, 69, 70, 71, 72, 73, 74, 75, 76, 77, 78, 79, 80, 81, 82, 83, 84, 85, 86, 87, 88, 89, 90, 91, 92] [] (pre2 ++ [x2], rest2, a2) ?_ ⟨?_, ?_, ?_⟩ ?_)
                 · simp
                 · exact cut_snoc he2.out
                 · rfl
                 · first | rfl | assumption | (simp_all [eqz_end, eqz_mid, eqz_nil, LK_eq]; done)
                 · first | (simp -implicitDefEqProofs only [SD, SF, SL, e_nf, reduceCtorEq, implies_true, ↓reduceIte, Nat.reduceEqDiff, Nat.reduceAdd, Nat.reduceMul, Nat.reduceSub, Nat.reduceLeDiff, Nat.reduceLT, Int.reduceLT, Int.reduceLE, Int.reduceEq, Int.reduceToNat, Int.reduceAdd, Int.reduceSub, Int.reduceNeg, Int.reduceBEq, Int.reduceBNe, Nat.reduceBEq, Int.cast_ofNat_Int, decide_true, decide_false, ne_eq, eq_self_iff_true, beq_eq_false_iff_ne, bne_iff_ne, List.replicate, encLv, eqz_end, eqz_mid, eqz_nil] <;> simp <;> done) | (simp -implicitDefEqProofs only [SD, SF, SL, e_nf, reduceCtorEq, implies_true, ↓reduceIte, Nat.reduceEqDiff, Nat.reduceAdd, Nat.reduceMul, Nat.reduceSub, Nat.reduceLeDiff, Nat.reduceLT, Int.reduceLT, Int.reduceLE, Int.reduceEq, Int.reduceToNat, Int.reduceAdd, Int.reduceSub, Int.reduceNeg, Int.reduceBEq, Int.reduceBNe, Nat.reduceBEq, Int.cast_ofNat_Int, decide_true, decide_false, ne_eq, eq_self_iff_true, beq_eq_false_iff_ne, bne_iff_ne, List.replicate, encLv, eqz_end, eqz_mid, eqz_nil, *] <;> simp_all <;> done))
              | (with_reducible refine ite_in (fun _ => ?_) (fun _ => ?_))
              | (with_reducible refine ⟨fun _ => ?_, fun _ => ?_⟩)
              | (with_reducible refine And.intro ?_ ?_)
              | (with_reducible intro _)
              | (with_reducible exact is_in _)
              | (simp -implicitDefEqProofs only [SD, SF, SL, e_nf, reduceCtorEq, implies_true, ↓reduceIte, Nat.reduceEqDiff, Nat.reduceAdd, Nat.reduceMul, Nat.reduceSub, Nat.reduceLeDiff, Nat.reduceLT, Int.reduceLT, Int.reduceLE, Int.reduceEq, Int.reduceToNat, Int.reduceAdd, Int.reduceSub, Int.reduceNeg, Int.reduceBEq, Int.reduceBNe, Nat.reduceBEq, Int.cast_ofNat_Int, decide_true, decide_false, ne_eq, eq_self_iff_true, beq_eq_false_iff_ne, bne_iff_ne, List.replicate, encLv, eqz_end, eqz_mid, eqz_nil, *]))))
            all_goals (first | (simp_all [Lv_eq, LU_eq, LK_eq, eqz_end, eqz_mid, eqz_nil]; done) | (simp_all [Lv_eq, LU_eq, LK_eq, eqz_end, eqz_mid, eqz_nil, eqz]; done))
      | cons x1 rest1 =>
        have hlt1 := cut_lt he1
        have hx1 := cutD1 encLU he1
        have hy1 := cutD2 encLU he1
        have hez1 := eqz_mid pre1 x1 rest1
        rw [← he1] at hez1
        simp only [encLU] at hx1 hy1
        simp -implicitDefEqProofs only [SD, SF, SL, e_nf, reduceCtorEq, implies_true, ↓reduceIte, Nat.reduceEqDiff, Nat.reduceAdd, Nat.reduceMul, Nat.reduceSub, Nat.reduceLeDiff, Nat.reduceLT, Int.reduceLT, Int.reduceLE, Int.reduceEq, Int.reduceToNat, Int.reduceAdd, Int.reduceSub, Int.reduceNeg, Int.reduceBEq, Int.reduceBNe, Nat.reduceBEq, Int.cast_ofNat_Int, decide_true, decide_false, ne_eq, eq_self_iff_true, beq_eq_false_iff_ne, bne_iff_ne, List.replicate, encLv, eqz_end, eqz_mid, eqz_nil, hlt1]
        intro hl
        have hw1 := wrap_len (n := pre1.length) (m := (z1).length) (cut_lt' he1) (by simpa using hl)
        replace he1 := Hd.mk he1
        iterate 30 (all_goals (try (first
          | ((with_reducible refine back_in rest1.length [4, 23, 24, 25, 26, 27, 28, 29, 30, 31, 32, 33, 34, 35, 36, 37, 38, 39, 40, 41, 42, 43, 44, 45, 46, 47, 48, 49, 50, 51, 52, 53, 54, 55, 56, 57] [] (pre1 ++ [x1], rest1, a1) ?_ ⟨?_, ?_, ?_⟩ ?_)
             · simp
             · exact cut_snoc he1.out
             · rfl
             · first | rfl | assumption | (simp_all [eqz_end, eqz_mid, eqz_nil, LU_eq]; done)
             · first | (simp -implicitDefEqProofs only [SD, SF, SL, e_nf, reduceCtorEq, implies_true, ↓reduceIte, Nat.reduceEqDiff, Nat.reduceAdd, Nat.reduceMul, Nat.reduceSub, Nat.reduceLeDiff, Nat.reduceLT, Int.reduceLT, Int.reduceLE, Int.reduceEq, Int.reduceToNat, Int.reduceAdd, Int.reduceSub, Int.reduceNeg, Int.reduceBEq, Int.reduceBNe, Nat.reduceBEq, Int.cast_ofNat_Int, decide_true, decide_false, ne_eq, eq_self_iff_true, beq_eq_false_iff_ne, bne_iff_ne, List.replicate, encLv, eqz_end, eqz_mid, eqz_nil] <;> simp <;> done) | (simp -implicitDefEqProofs only [SD, SF, SL, e_nf, reduceCtorEq, implies_true, ↓reduceIte, Nat.reduceEqDiff, Nat.reduceAdd, Nat.reduceMul, Nat.reduceSub, Nat.reduceLeDiff, Nat.reduceLT, Int.reduceLT, Int.reduceLE, Int.reduceEq, Int.reduceToNat, Int.reduceAdd, Int.reduceSub, Int.reduceNeg, Int.reduceBEq, Int.reduceBNe, Nat.reduceBEq, Int.cast_ofNat_Int, decide_true, decide_false, ne_eq, eq_self_iff_true, beq_eq_false_iff_ne, bne_iff_ne, List.replicate, encLv, eqz_end, eqz_mid, eqz_nil, *] <;> simp_all <;> done))
          | (with_reducible refine ite_in (fun _ => ?_) (fun _ => ?_))
          | (with_reducible refine ⟨fun _ => ?_, fun _ => ?_⟩)
          | (with_reducible refine And.intro ?_ ?_)
          | (with_reducible intro _)
          | (with_reducible exact is_in _)
          | (simp -implicitDefEqProofs only [SD, SF, SL, e_nf, reduceCtorEq, implies_true, ↓reduceIte, Nat.reduceEqDiff, Nat.reduceAdd, Nat.reduceMul, Nat.reduceSub, Nat.reduceLeDiff, Nat.reduceLT, Int.reduceLT, Int.reduceLE, Int.reduceEq, Int.reduceToNat, Int.reduceAdd, Int.reduceSub, Int.reduceNeg, Int.reduceBEq, Int.reduceBNe, Nat.reduceBEq, Int.cast_ofNat_Int, decide_true, decide_false, ne_eq, eq_self_iff_true, beq_eq_false_iff_ne, bne_iff_ne, List.replicate, encLv, eqz_end, eqz_mid, eqz_nil, *]))))
        all_goals (first | (simp_all [Lv_eq, LU_eq, LK_eq, eqz_end, eqz_mid, eqz_nil]; done) | (simp_all [Lv_eq, LU_eq, LK_eq, eqz_end, eqz_mid, eqz_nil, eqz]; done))
  · have hne : a ≠ b := fun e => h (by rw [e]; exact ⟨rfl, rfl⟩)
    iterate 30 (all_goals (try (first
      | (with_reducible refine ite_in (fun _ => ?_) (fun _ => ?_))
      | (with_reducible refine ⟨fun _ => ?_, fun _ => ?_⟩)
      | (with_reducible refine And.intro ?_ ?_)
      | (with_reducible intro _)
      | (with_reducible exact is_in _)
      | (simp -implicitDefEqProofs only [SD, SF, SL, e_nf, reduceCtorEq, implies_true, ↓reduceIte, Nat.reduceEqDiff, Nat.reduceAdd, Nat.reduceMul, Nat.reduceSub, Nat.reduceLeDiff, Nat.reduceLT, Int.reduceLT, Int.reduceLE, Int.reduceEq, Int.reduceToNat, Int.reduceAdd, Int.reduceSub, Int.reduceNeg, Int.reduceBEq, Int.reduceBNe, Nat.reduceBEq, Int.cast_ofNat_Int, decide_true, decide_false, ne_eq, eq_self_iff_true, beq_eq_false_iff_ne, bne_iff_ne, List.replicate, encLv, len_cast, *]))))
    all_goals (first | (simp_all; done) | (simp_all; omega))
def ac37 : AC := (.seq (.ops [⟨(some 2), none, (.box (.t 0))⟩, ⟨(some 3), none, (.box (.t 1))⟩, ⟨(some 4), none, (.mv (.c (.bool false)))⟩]) (.seq (.ops [⟨(some 5), none, (.fld 0 (.t 2))⟩, ⟨(some 6), none, (.ld false 1 (.t 5))⟩, ⟨(some 7), none, (.fld 0 (.t 3))⟩, ⟨(some 8), none, (.ld false 1 (.t 7))⟩, ⟨(some 9), none, (.bin .eql (.t 6) (.t 8))⟩, ⟨(some 10), none, (.mv (.t 9))⟩, ⟨(some 11), (some (10, true)), (.fld 1 (.t 2))⟩, ⟨(some 12), (some (10, true)), (.ld false 1 (.t 11))⟩, ⟨(some 13), (some (10, true)), (.fld 1 (.t 3))⟩, ⟨(some 14), (some (10, true)), (.ld false 1 (.t 13))⟩, ⟨(some 15), (some (10, true)), (.bin .eql (.t 12) (.t 14))⟩, ⟨(some 16), none, (.pick (.t 10) (.t 15) (.c (.bool false)))⟩, ⟨(some 17), none, (.mv (.t 16))⟩, ⟨(some 18), (some (17, true)), (.fld 2 (.t 2))⟩, ⟨(some 19), (some (17, true)), (.ld false 1 (.t 18))⟩, ⟨(some 20), (some (17, true)), (.fld 2 (.t 3))⟩, ⟨(some 21), (some (17, true)), (.ld false 1 (.t 20))⟩, ⟨(some 22), (some (17, true)), (.bin .eql (.t 19) (.t 21))⟩, ⟨(some 23), none, (.pick (.t 17) (.t 22) (.c (.bool false)))⟩, ⟨(some 24), none, (.mv (.t 23))⟩, ⟨(some 25), (some (24, true)), (.fld 3 (.t 2))⟩, ⟨(some 26), (some (24, true)), (.ld false 1 (.t 25))⟩, ⟨(some 27), (some (24, true)), (.fld 3 (.t 3))⟩, ⟨(some 28), (some (24, true)), (.ld false 1 (.t 27))⟩, ⟨(some 29), (some (24, true)), (.beq false (.t 26) (.t 28))⟩, ⟨(some 30), none, (.pick (.t 24) (.t 29) (.c (.bool false)))⟩, ⟨(some 31), none, (.mv (.t 30))⟩, ⟨(some 32), (some (31, true)), (.fld 4 (.t 2))⟩, ⟨(some 33), (some (31, true)), (.ld false 1 (.t 32))⟩, ⟨(some 34), (some (31, true)), (.fld 4 (.t 3))⟩, ⟨(some 35), (some (31, true)), (.ld false 1 (.t 34))⟩, ⟨(some 36), (some (31, true)), (.bin .eql (.t 33) (.t 35))⟩, ⟨(some 37), none, (.pick (.t 31) (.t 36) (.c (.bool false)))⟩, ⟨(some 38), none, (.mv (.t 37))⟩, ⟨(some 39), (some (38, true)), (.fld 5 (.t 2))⟩, ⟨(some 40), (some (38, true)), (.ld false 1 (.t 39))⟩, ⟨(some 41), (some (38, true)), (.fld 5 (.t 3))⟩, ⟨(some 42), (some (38, true)), (.ld false 1 (.t 41))⟩, ⟨(some 43), (some (38, true)), (.call false 45 [(.t 40), (.t 42)])⟩, ⟨(some 44), none, (.pick (.t 38) (.t 43) (.c (.bool false)))⟩, ⟨(some 45), none, (.mv (.t 44))⟩, ⟨(some 46), (some (45, true)), (.fld 6 (.t 2))⟩, ⟨(some 47), (some (45, true)), (.ld false 1 (.t 46))⟩, ⟨(some 48), (some (45, true)), (.fld 6 (.t 3))⟩, ⟨(some 49), (some (45, true)), (.ld false 1 (.t 48))⟩, ⟨(some 50), (some (45, true)), (.call false 45 [(.t 47), (.t 49)])⟩, ⟨(some 51), none, (.pick (.t 45) (.t 50) (.c (.bool false)))⟩, ⟨(some 52), none, (.mv (.t 51))⟩, ⟨(some 53), (some (52, true)), (.fld 7 (.t 2))⟩, ⟨(some 54), (some (52, true)), (.ld true 9 (.t 53))⟩, ⟨(some 55), (some (52, true)), (.fld 7 (.t 3))⟩, ⟨(some 56), (some (52, true)), (.ld true 9 (.t 55))⟩, ⟨(some 57), (some (52, true)), (.call false 46 [(.t 54), (.t 56)])⟩, ⟨(some 58), none, (.pick (.t 52) (.t 57) (.c (.bool false)))⟩, ⟨(some 4), none, (.mv (.t 58))⟩]) .ret))
theorem tr37 : Try.f37.body.bind (trCode Try.prog) = some (strip ac37) := by kernel_rfl
theorem spec37 (a b : Ev) : Spec Try.prog 37 [.fz (.agg (encCn a)), .fz (.agg (encCn b))] (.fz (.bool (decide (cnEq a b)))) := by
  refine spec_at (n := 57) (ars := [(.t 4)]) (ac := ac37) Try.func37 (by kernel_rfl) (by kernel_rfl) tr37 (by kernel_rfl) ?_
  unfold ac37
  iterate 80 (all_goals (try (first
    | ((with_reducible refine of_kSpec ?_); refine call_fz (spec45 a.allow b.allow) rfl ?_)
    | ((with_reducible refine of_kSpec ?_); refine call_fz (spec45 a.deny b.deny) rfl ?_)
    | ((with_reducible refine of_kSpec ?_)
       refine call_sub (ds' := [.agg (encLv a.lv), .agg (encLv b.lv)]) (spec46 a.lv b.lv) rfl ?_ ?_
       · simp -implicitDefEqProofs only [SD, SF, SL, e_nf, reduceCtorEq, implies_true, ↓reduceIte, Nat.reduceEqDiff, Nat.reduceAdd, Nat.reduceMul, Nat.reduceSub, Nat.reduceLeDiff, Nat.reduceLT, Int.reduceLT, Int.reduceLE, Int.reduceEq, Int.reduceToNat, Int.reduceAdd, Int.reduceSub, Int.reduceNeg, Int.reduceBEq, Int.reduceBNe, Nat.reduceBEq, Int.cast_ofNat_Int, decide_true, decide_false, ne_eq, eq_self_iff_true, beq_eq_false_iff_ne, bne_iff_ne, List.replicate, encLv, *]
         done)
    | (with_reducible refine ite_in (fun _ => ?_) (fun _ => ?_))
    | (with_reducible refine ⟨fun _ => ?_, fun _ => ?_⟩)
    | (with_reducible refine And.intro ?_ ?_)
    | (with_reducible intro _)
    | (with_reducible exact is_in _)
    | (simp -implicitDefEqProofs only [SD, SF, SL, e_nf, reduceCtorEq, implies_true, ↓reduceIte, Nat.reduceEqDiff, Nat.reduceAdd, Nat.reduceMul, Nat.reduceSub, Nat.reduceLeDiff, Nat.reduceLT, Int.reduceLT, Int.reduceLE, Int.reduceEq, Int.reduceToNat, Int.reduceAdd, Int.reduceSub, Int.reduceNeg, Int.reduceBEq, Int.reduceBNe, Nat.reduceBEq, Int.cast_ofNat_Int, decide_true, decide_false, ne_eq, eq_self_iff_true, beq_eq_false_iff_ne, bne_iff_ne, List.replicate, encCn, *]))))
  all_goals (first | (simp_all [cnEq]; done) | grind [cnEq])
def ac23 : AC := (.seq (.ops [⟨(some 2), none, (.box (.t 0))⟩, ⟨(some 3), none, (.box (.t 1))⟩, ⟨(some 4), none, (.mv (.c (.bool false)))⟩]) (.seq (.ops [⟨(some 5), none, (.fld 0 (.t 2))⟩, ⟨(some 6), none, (.ld false 1 (.t 5))⟩, ⟨(some 7), none, (.fld 0 (.t 3))⟩, ⟨(some 8), none, (.ld false 1 (.t 7))⟩, ⟨(some 9), none, (.bin .eql (.t 6) (.t 8))⟩, ⟨(some 10), none, (.mv (.t 9))⟩, ⟨(some 11), (some (10, true)), (.fld 1 (.t 2))⟩, ⟨(some 12), (some (10, true)), (.ld false 1 (.t 11))⟩, ⟨(some 13), (some (10, true)), (.fld 1 (.t 3))⟩, ⟨(some 14), (some (10, true)), (.ld false 1 (.t 13))⟩, ⟨(some 15), (some (10, true)), (.bin .eql (.t 12) (.t 14))⟩, ⟨(some 16), none, (.pick (.t 10) (.t 15) (.c (.bool false)))⟩, ⟨(some 17), none, (.mv (.t 16))⟩, ⟨(some 18), (some (17, true)), (.fld 2 (.t 2))⟩, ⟨(some 19), (some (17, true)), (.ld false 1 (.t 18))⟩, ⟨(some 20), (some (17, true)), (.fld 2 (.t 3))⟩, ⟨(some 21), (some (17, true)), (.ld false 1 (.t 20))⟩, ⟨(some 22), (some (17, true)), (.bin .eql (.t 19) (.t 21))⟩, ⟨(some 23), none, (.pick (.t 17) (.t 22) (.c (.bool false)))⟩, ⟨(some 24), none, (.mv (.t 23))⟩, ⟨(some 25), (some (24, true)), (.fld 3 (.t 2))⟩, ⟨(some 26), (some (24, true)), (.ld false 1 (.t 25))⟩, ⟨(some 27), (some (24, true)), (.fld 3 (.t 3))⟩, ⟨(some 28), (some (24, true)), (.ld false 1 (.t 27))⟩, ⟨(some 29), (some (24, true)), (.bin .eql (.t 26) (.t 28))⟩, ⟨(some 30), none, (.pick (.t 24) (.t 29) (.c (.bool false)))⟩, ⟨(some 31), none, (.mv (.t 30))⟩, ⟨(some 32), (some (31, true)), (.fld 4 (.t 2))⟩, ⟨(some 33), (some (31, true)), (.ld false 1 (.t 32))⟩, ⟨(some 34), (some (31, true)), (.fld 4 (.t 3))⟩, ⟨(some 35), (some (31, true)), (.ld false 1 (.t 34))⟩, ⟨(some 36), (some (31, true)), (.beq false (.t 33) (.t 35))⟩, ⟨(some 37), none, (.pick (.t 31) (.t 36) (.c (.bool false)))⟩, ⟨(some 38), none, (.mv (.t 37))⟩, ⟨(some 39), (some (38, true)), (.fld 5 (.t 2))⟩, ⟨(some 40), (some (38, true)), (.ld false 1 (.t 39))⟩, ⟨(some 41), (some (38, true)), (.fld 5 (.t 3))⟩, ⟨(some 42), (some (38, true)), (.ld false 1 (.t 41))⟩, ⟨(some 43), (some (38, true)), (.bin .eql (.t 40) (.t 42))⟩, ⟨(some 44), none, (.pick (.t 38) (.t 43) (.c (.bool false)))⟩, ⟨(some 45), none, (.mv (.t 44))⟩, ⟨(some 46), (some (45, true)), (.fld 6 (.t 2))⟩, ⟨(some 47), (some (45, true)), (.ld false 1 (.t 46))⟩, ⟨(some 48), (some (45, true)), (.fld 6 (.t 3))⟩, ⟨(some 49), (some (45, true)), (.ld false 1 (.t 48))⟩, ⟨(some 50), (some (45, true)), (.bin .eql (.t 47) (.t 49))⟩, ⟨(some 51), none, (.pick (.t 45) (.t 50) (.c (.bool false)))⟩, ⟨(some 52), none, (.mv (.t 51))⟩, ⟨(some 53), (some (52, true)), (.fld 7 (.t 2))⟩, ⟨(some 54), (some (52, true)), (.ld false 1 (.t 53))⟩, ⟨(some 55), (some (52, true)), (.fld 7 (.t 3))⟩, ⟨(some 56), (some (52, true)), (.ld false 1 (.t 55))⟩, ⟨(some 57), (some (52, true)), (.bin .eql (.t 54) (.t 56))⟩, ⟨(some 58), none, (.pick (.t 52) (.t 57) (.c (.bool false)))⟩, ⟨(some 59), none, (.mv (.t 58))⟩, ⟨(some 60), (some (59, true)), (.fld 8 (.t 2))⟩, ⟨(some 61), (some (59, true)), (.ld false 1 (.t 60))⟩, ⟨(some 62), (some (59, true)), (.fld 8 (.t 3))⟩, ⟨(some 63), (some (59, true)), (.ld false 1 (.t 62))⟩, ⟨(some 64), (some (59, true)), (.call false 36 [(.t 61), (.t 63)])⟩, ⟨(some 65), none, (.pick (.t 59) (.t 64) (.c (.bool false)))⟩, ⟨(some 66), none, (.mv (.t 65))⟩, ⟨(some 67), (some (66, true)), (.fld 9 (.t 2))⟩, ⟨(some 68), (some (66, true)), (.ld false 1 (.t 67))⟩, ⟨(some 69), (some (66, true)), (.fld 9 (.t 3))⟩, ⟨(some 70), (some (66, true)), (.ld false 1 (.t 69))⟩, ⟨(some 71), (some (66, true)), (.call false 36 [(.t 68), (.t 70)])⟩, ⟨(some 72), none, (.pick (.t 66) (.t 71) (.c (.bool false)))⟩, ⟨(some 73), none, (.mv (.t 72))⟩, ⟨(some 74), (some (73, true)), (.fld 10 (.t 2))⟩, ⟨(some 75), (some (73, true)), (.ld true 16 (.t 74))⟩, ⟨(some 76), (some (73, true)), (.fld 10 (.t 3))⟩, ⟨(some 77), (some (73, true)), (.ld true 16 (.t 76))⟩, ⟨(some 78), (some (73, true)), (.call false 37 [(.t 75), (.t 77)])⟩, ⟨(some 79), none, (.pick (.t 73) (.t 78) (.c (.bool false)))⟩, ⟨(some 80), none, (.mv (.t 79))⟩, ⟨(some 81), (some (80, true)), (.fld 26 (.t 2))⟩, ⟨(some 82), (some (80, true)), (.ld false 1 (.t 81))⟩, ⟨(some 83), (some (80, true)), (.fld 26 (.t 3))⟩, ⟨(some 84), (some (80, true)), (.ld false 1 (.t 83))⟩, ⟨(some 85), (some (80, true)), (.bin .eql (.t 82) (.t 84))⟩, ⟨(some 86), none, (.pick (.t 80) (.t 85) (.c (.bool false)))⟩, ⟨(some 87), none, (.mv (.t 86))⟩, ⟨(some 88), (some (87, true)), (.fld 27 (.t 2))⟩, ⟨(some 89), (some (87, true)), (.fld 0 (.t 88))⟩, ⟨(some 90), (some (87, true)), (.ld false 1 (.t 89))⟩, ⟨(some 91), (some (87, true)), (.fld 27 (.t 3))⟩, ⟨(some 92), (some (87, true)), (.fld 0 (.t 91))⟩, ⟨(some 93), (some (87, true)), (.ld false 1 (.t 92))⟩, ⟨(some 94), (some (87, true)), (.bin .eql (.t 90) (.t 93))⟩, ⟨(some 95), none, (.pick (.t 87) (.t 94) (.c (.bool false)))⟩, ⟨(some 96), none, (.mv (.t 95))⟩, ⟨(some 97), (some (96, true)), (.fld 27 (.t 2))⟩, ⟨(some 98), (some (96, true)), (.fld 1 (.t 97))⟩, ⟨(some 99), (some (96, true)), (.ld false 1 (.t 98))⟩, ⟨(some 100), (some (96, true)), (.fld 27 (.t 3))⟩, ⟨(some 101), (some (96, true)), (.fld 1 (.t 100))⟩, ⟨(some 102), (some (96, true)), (.ld false 1 (.t 101))⟩, ⟨(some 103), (some (96, true)), (.bin .eql (.t 99) (.t 102))⟩, ⟨(some 104), none, (.pick (.t 96) (.t 103) (.c (.bool false)))⟩, ⟨(some 4), none, (.mv (.t 104))⟩]) .ret))
theorem tr23 : Try.f23.body.bind (trCode Try.prog) = some (strip ac23) := by kernel_rfl
theorem spec23 (a b : Ev) : Spec Try.prog 23 [.fz (.agg (encEv a)), .fz (.agg (encEv b))] (.fz (.bool (decide (a = b)))) := by
  refine spec_at (n := 103) (ars := [(.t 4)]) (ac := ac23) Try.func23 (by kernel_rfl) (by kernel_rfl) tr23 (by kernel_rfl) ?_
  unfold ac23
  iterate 140 (all_goals (try (first
    | ((with_reducible refine of_kSpec ?_); refine call_fz (spec36 a.prev b.prev) rfl ?_)
    | ((with_reducible refine of_kSpec ?_); refine call_fz (spec36 a.auth b.auth) rfl ?_)
    | ((with_reducible refine of_kSpec ?_)
       refine call_sub (ds' := [.agg (encCn a), .agg (encCn b)]) (spec37 a b) rfl ?_ ?_
       · simp -implicitDefEqProofs only [SD, SF, SL, e_nf, reduceCtorEq, implies_true, ↓reduceIte, Nat.reduceEqDiff, Nat.reduceAdd, Nat.reduceMul, Nat.reduceSub, Nat.reduceLeDiff, Nat.reduceLT, Int.reduceLT, Int.reduceLE, Int.reduceEq, Int.reduceToNat, Int.reduceAdd, Int.reduceSub, Int.reduceNeg, Int.reduceBEq, Int.reduceBNe, Nat.reduceBEq, Int.cast_ofNat_Int, decide_true, decide_false, ne_eq, eq_self_iff_true, beq_eq_false_iff_ne, bne_iff_ne, List.replicate, encCn, *]
         done)
    | (with_reducible refine ite_in (fun _ => ?_) (fun _ => ?_))
    | (with_reducible refine ⟨fun _ => ?_, fun _ => ?_⟩)
    | (with_reducible refine And.intro ?_ ?_)
    | (with_reducible intro _)
    | (with_reducible exact is_in _)
    | (simp -implicitDefEqProofs only [SD, SF, SL, e_nf, reduceCtorEq, implies_true, ↓reduceIte, Nat.reduceEqDiff, Nat.reduceAdd, Nat.reduceMul, Nat.reduceSub, Nat.reduceLeDiff, Nat.reduceLT, Int.reduceLT, Int.reduceLE, Int.reduceEq, Int.reduceToNat, Int.reduceAdd, Int.reduceSub, Int.reduceNeg, Int.reduceBEq, Int.reduceBNe, Nat.reduceBEq, Int.cast_ofNat_Int, decide_true, decide_false, ne_eq, eq_self_iff_true, beq_eq_false_iff_ne, bne_iff_ne, List.replicate, encEv, *]))))
  all_goals (first | (simp_all [Ev_eq]; done) | grind [Ev_eq])
def ac12 : AC := (.seq (.ops [⟨(some 4), none, (.mv (.c (.bool false)))⟩]) (.seq (.seq (.ops [⟨(some 6), none, (.mv (.t 0))⟩, ⟨(some 7), none, (.len (.t 6))⟩, ⟨(some 8), none, (.mv (.t 1))⟩, ⟨(some 9), none, (.len (.t 8))⟩, ⟨(some 10), none, (.bin .neq (.t 7) (.t 9))⟩]) (.cond (.t 10) (.seq (.ops [⟨(some 4), none, (.mv (.c (.bool false)))⟩]) .ret) .skip)) (.seq (.seq (.ops [⟨(some 5), none, (.mv (.c (.int .i64 0)))⟩]) (.block 0 (.loop (.seq (.seq (.ops [⟨(some 11), none, (.mv (.t 5))⟩, ⟨(some 12), none, (.mv (.t 0))⟩, ⟨(some 13), none, (.len (.t 12))⟩, ⟨(some 14), none, (.bin .lss (.t 11) (.t 13))⟩]) (.cond (.t 14) .skip (.exit 0))) (.seq (.block 1 (.seq (.draw (.q false ⟨(some 17), none, (.mv (.t 0))⟩ (.q false ⟨(some 18), none, (.mv (.t 5))⟩ (.q false ⟨(some 19), none, (.ix 29 (.t 17) (.t 18))⟩ (.q false ⟨(some 20), none, (.ld true 29 (.t 19))⟩ (.q false ⟨(some 21), none, (.mv (.t 1))⟩ (.q false ⟨(some 22), none, (.mv (.t 5))⟩ (.q false ⟨(some 23), none, (.ix 29 (.t 21) (.t 22))⟩ (.q false ⟨(some 24), none, (.ld true 29 (.t 23))⟩ (.op ⟨(some 25), none, (.call false 23 [(.t 20), (.t 24)])⟩ (.q false ⟨(some 26), none, (.nt (.t 25))⟩ .nil))))))))))) (.cond (.t 26) (.seq (.ops [⟨(some 4), none, (.mv (.c (.bool false)))⟩]) .ret) .skip))) (.ops [⟨(some 15), none, (.mv (.t 5))⟩, ⟨(some 16), none, (.bin .add (.t 15) (.c (.int .i64 1)))⟩, ⟨(some 5), none, (.mv (.t 16))⟩])))))) (.seq (.ops [⟨(some 4), none, (.mv (.c (.bool true)))⟩]) .ret))))
theorem tr12 : Try.f12.body.bind (trCode Try.prog) = some (strip ac12) := by kernel_rfl
theorem spec12 (a b : List Ev) : Spec Try.prog 12 [.fz (.sl 29 (a.map encEv)), .fz (.sl 29 (b.map encEv))] (.fz (.bool (decide (a = b)))) := by
  refine spec_at (n := 25) (ars := [(.t 4)]) (ac := ac12) Try.func12 (by kernel_rfl) (by kernel_rfl) tr12 (by kernel_rfl) ?_
  unfold ac12
  simp -implicitDefEqProofs only [SD, SF, SL, e_nf, reduceCtorEq, implies_true, ↓reduceIte, Nat.reduceEqDiff, Nat.reduceAdd, Nat.reduceMul, Nat.reduceSub, Nat.reduceLeDiff, Nat.reduceLT, Int.reduceLT, Int.reduceLE, Int.reduceEq, Int.reduceToNat, Int.reduceAdd, Int.reduceSub, Int.reduceNeg, Int.reduceBEq, Int.reduceBNe, Nat.reduceBEq, Int.cast_ofNat_Int, decide_true, decide_false, ne_eq, eq_self_iff_true, beq_eq_false_iff_ne, bne_iff_ne, List.replicate, len_cast]
  intro _ _
  by_cases h : a.length = b.length
  · obtain ⟨z, rfl, rfl⟩ := zip_of_len h
    rw [eqz_dec]
    simp -implicitDefEqProofs only [SD, SF, SL, e_nf, reduceCtorEq, implies_true, ↓reduceIte, Nat.reduceEqDiff, Nat.reduceAdd, Nat.reduceMul, Nat.reduceSub, Nat.reduceLeDiff, Nat.reduceLT, Int.reduceLT, Int.reduceLE, Int.reduceEq, Int.reduceToNat, Int.reduceAdd, Int.reduceSub, Int.reduceNeg, Int.reduceBEq, Int.reduceBNe, Nat.reduceBEq, Int.cast_ofNat_Int, decide_true, decide_false, ne_eq, eq_self_iff_true, beq_eq_false_iff_ne, bne_iff_ne, List.replicate, len_cast, h]
    refine loop_q (X := List (Ev × Ev) × List (Ev × Ev) × Unit) (fun n x => z = x.1 ++ x.2.1 ∧ n = x.2.1.length ∧ (eqz x.1)) (fun x => [(5, .int .i64 x.1.length)]) (fun _ => []) [4, 11, 12, 13, 14, 15, 16, 17, 18, 19, 20, 21, 22, 23, 24, 25, 26] []  (z).length ([], z, ()) ⟨rfl, rfl, by first | rfl | assumption | (simp_all [eqz_end, eqz_mid, eqz_nil]; done) | grind [eqz_end, eqz_mid, eqz_nil]⟩ ?_ ?_
    · simp -implicitDefEqProofs only [SD, SF, SL, e_nf, reduceCtorEq, implies_true, ↓reduceIte, Nat.reduceEqDiff, Nat.reduceAdd, Nat.reduceMul, Nat.reduceSub, Nat.reduceLeDiff, Nat.reduceLT, Int.reduceLT, Int.reduceLE, Int.reduceEq, Int.reduceToNat, Int.reduceAdd, Int.reduceSub, Int.reduceNeg, Int.reduceBEq, Int.reduceBNe, Nat.reduceBEq, Int.cast_ofNat_Int, decide_true, decide_false, ne_eq, eq_self_iff_true, beq_eq_false_iff_ne, bne_iff_ne, List.replicate, eqz_end, eqz_mid, eqz_nil] <;> simp
    · rintro n ⟨pre, rest, a⟩ ⟨he, rfl, hI⟩
      dsimp only at he hI
      cases rest with
      | nil =>
        obtain rfl : z = pre := by simpa using he
        clear he
        have hlt : ¬ (((z).length : Int) < ((z).length : Int)) := Int.lt_irrefl _
        iterate 30 (all_goals (try (first
          | ((with_reducible refine of_kSpec ?_)
             refine call_sub (ds' := [.agg (encEv x.1), .agg (encEv x.2)]) (spec23 x.1 x.2) rfl ?_ ?_
             · simp -implicitDefEqProofs only [SD, SF, SL, e_nf, reduceCtorEq, implies_true, ↓reduceIte, Nat.reduceEqDiff, Nat.reduceAdd, Nat.reduceMul, Nat.reduceSub, Nat.reduceLeDiff, Nat.reduceLT, Int.reduceLT, Int.reduceLE, Int.reduceEq, Int.reduceToNat, Int.reduceAdd, Int.reduceSub, Int.reduceNeg, Int.reduceBEq, Int.reduceBNe, Nat.reduceBEq, Int.cast_ofNat_Int, decide_true, decide_false, ne_eq, eq_self_iff_true, beq_eq_false_iff_ne, bne_iff_ne, List.replicate, encEv, *]
               done)
          | (with_reducible refine ite_in (fun _ => ?_) (fun _ => ?_))
          | (with_reducible refine ⟨fun _ => ?_, fun _ => ?_⟩)
          | (with_reducible refine And.intro ?_ ?_)
          | (with_reducible intro _)
          | (with_reducible exact is_in _)
          | (simp -implicitDefEqProofs only [SD, SF, SL, e_nf, reduceCtorEq, implies_true, ↓reduceIte, Nat.reduceEqDiff, Nat.reduceAdd, Nat.reduceMul, Nat.reduceSub, Nat.reduceLeDiff, Nat.reduceLT, Int.reduceLT, Int.reduceLE, Int.reduceEq, Int.reduceToNat, Int.reduceAdd, Int.reduceSub, Int.reduceNeg, Int.reduceBEq, Int.reduceBNe, Nat.reduceBEq, Int.cast_ofNat_Int, decide_true, decide_false, ne_eq, eq_self_iff_true, beq_eq_false_iff_ne, bne_iff_ne, List.replicate, eqz_end, eqz_mid, eqz_nil, *]))))
        all_goals (simp_all [eqz_end, eqz_mid, eqz_nil])

      | cons x rest =>
        have hlt := cut_lt he
        have hx := cutD1 encEv he
        have hy := cutD2 encEv he
        have hez := eqz_mid pre x rest
        rw [← he] at hez
        simp only [encEv] at hx hy
        simp -implicitDefEqProofs only [SD, SF, SL, e_nf, reduceCtorEq, implies_true, ↓reduceIte, Nat.reduceEqDiff, Nat.reduceAdd, Nat.reduceMul, Nat.reduceSub, Nat.reduceLeDiff, Nat.reduceLT, Int.reduceLT, Int.reduceLE, Int.reduceEq, Int.reduceToNat, Int.reduceAdd, Int.reduceSub, Int.reduceNeg, Int.reduceBEq, Int.reduceBNe, Nat.reduceBEq, Int.cast_ofNat_Int, decide_true, decide_false, ne_eq, eq_self_iff_true, beq_eq_false_iff_ne, bne_iff_ne, List.replicate, eqz_end, eqz_mid, eqz_nil, hlt]
        intro hl
        have hw := wrap_len (n := pre.length) (m := (z).length) (cut_lt' he) (by simpa using hl)
        replace he := Hd.mk he
        iterate 30 (all_goals (try (first
          | ((with_reducible refine back_in rest.length [4, 11, 12, 13, 14, 15, 16, 17, 18, 19, 20, 21, 22, 23, 24, 25, 26] [] (pre ++ [x], rest, a) ?_ ⟨?_, ?_, ?_⟩ ?_)
             · simp
             · exact cut_snoc he.out
             · rfl
             · first | rfl | assumption | (simp_all [eqz_end, eqz_mid, eqz_nil]; done) | grind [eqz_end, eqz_mid, eqz_nil]
             · first | (simp -implicitDefEqProofs only [SD, SF, SL, e_nf, reduceCtorEq, implies_true, ↓reduceIte, Nat.reduceEqDiff, Nat.reduceAdd, Nat.reduceMul, Nat.reduceSub, Nat.reduceLeDiff, Nat.reduceLT, Int.reduceLT, Int.reduceLE, Int.reduceEq, Int.reduceToNat, Int.reduceAdd, Int.reduceSub, Int.reduceNeg, Int.reduceBEq, Int.reduceBNe, Nat.reduceBEq, Int.cast_ofNat_Int, decide_true, decide_false, ne_eq, eq_self_iff_true, beq_eq_false_iff_ne, bne_iff_ne, List.replicate, eqz_end, eqz_mid, eqz_nil] <;> simp <;> done) | (simp -implicitDefEqProofs only [SD, SF, SL, e_nf, reduceCtorEq, implies_true, ↓reduceIte, Nat.reduceEqDiff, Nat.reduceAdd, Nat.reduceMul, Nat.reduceSub, Nat.reduceLeDiff, Nat.reduceLT, Int.reduceLT, Int.reduceLE, Int.reduceEq, Int.reduceToNat, Int.reduceAdd, Int.reduceSub, Int.reduceNeg, Int.reduceBEq, Int.reduceBNe, Nat.reduceBEq, Int.cast_ofNat_Int, decide_true, decide_false, ne_eq, eq_self_iff_true, beq_eq_false_iff_ne, bne_iff_ne, List.replicate, eqz_end, eqz_mid, eqz_nil, *] <;> simp_all <;> done))
          | ((with_reducible refine of_kSpec ?_)
             refine call_sub (ds' := [.agg (encEv x.1), .agg (encEv x.2)]) (spec23 x.1 x.2) rfl ?_ ?_
             · simp -implicitDefEqProofs only [SD, SF, SL, e_nf, reduceCtorEq, implies_true, ↓reduceIte, Nat.reduceEqDiff, Nat.reduceAdd, Nat.reduceMul, Nat.reduceSub, Nat.reduceLeDiff, Nat.reduceLT, Int.reduceLT, Int.reduceLE, Int.reduceEq, Int.reduceToNat, Int.reduceAdd, Int.reduceSub, Int.reduceNeg, Int.reduceBEq, Int.reduceBNe, Nat.reduceBEq, Int.cast_ofNat_Int, decide_true, decide_false, ne_eq, eq_self_iff_true, beq_eq_false_iff_ne, bne_iff_ne, List.replicate, encEv, *]
               done)
          | (with_reducible refine ite_in (fun _ => ?_) (fun _ => ?_))
          | (with_reducible refine ⟨fun _ => ?_, fun _ => ?_⟩)
          | (with_reducible refine And.intro ?_ ?_)
          | (with_reducible intro _)
          | (with_reducible exact is_in _)
          | (simp -implicitDefEqProofs only [SD, SF, SL, e_nf, reduceCtorEq, implies_true, ↓reduceIte, Nat.reduceEqDiff, Nat.reduceAdd, Nat.reduceMul, Nat.reduceSub, Nat.reduceLeDiff, Nat.reduceLT, Int.reduceLT, Int.reduceLE, Int.reduceEq, Int.reduceToNat, Int.reduceAdd, Int.reduceSub, Int.reduceNeg, Int.reduceBEq, Int.reduceBNe, Nat.reduceBEq, Int.cast_ofNat_Int, decide_true, decide_false, ne_eq, eq_self_iff_true, beq_eq_false_iff_ne, bne_iff_ne, List.replicate, eqz_end, eqz_mid, eqz_nil, *]))))
        all_goals (simp_all [eqz_end, eqz_mid, eqz_nil])
  · have hne : a ≠ b := fun e => h (by rw [e])
    iterate 30 (all_goals (try (first
      | (with_reducible refine ite_in (fun _ => ?_) (fun _ => ?_))
      | (with_reducible refine ⟨fun _ => ?_, fun _ => ?_⟩)
      | (with_reducible refine And.intro ?_ ?_)
      | (with_reducible intro _)
      | (with_reducible exact is_in _)
      | (simp -implicitDefEqProofs only [SD, SF, SL, e_nf, reduceCtorEq, implies_true, ↓reduceIte, Nat.reduceEqDiff, Nat.reduceAdd, Nat.reduceMul, Nat.reduceSub, Nat.reduceLeDiff, Nat.reduceLT, Int.reduceLT, Int.reduceLE, Int.reduceEq, Int.reduceToNat, Int.reduceAdd, Int.reduceSub, Int.reduceNeg, Int.reduceBEq, Int.reduceBNe, Nat.reduceBEq, Int.cast_ofNat_Int, decide_true, decide_false, ne_eq, eq_self_iff_true, beq_eq_false_iff_ne, bne_iff_ne, List.replicate, len_cast, *]))))
    all_goals (simp_all)

end Go.Proofs.Ytcolebkklojccaa.E
