/-
  NtQ: walks of functions of the program at data level.
-/
import Derived.Test.YtklbfafdioeehaaProg
import Derived.Test.YtklbfafdioeehaaEngZ
import Derived.Test.YtklbfafdioeehaaNtO
import Derived.KernelRfl
set_option linter.unusedVariables false
set_option linter.unusedSimpArgs false
namespace Go.Proofs.Ytklbfafdioeehaa.E
open Go
set_option maxHeartbeats 4000000
set_option maxRecDepth 100000
set_option linter.unusedSimpArgs false
set_option linter.unusedVariables false
attribute [local congr] c_wp c_ops c_op c_opS c_run c_runS c_dt c_seq c_blk c_loop c_S c_put c_bind c_mv c_pick c_nt c_ng c_bin c_binI c_binS c_beq c_B c_eqa c_hd c_cells c_blkK c_box c_vec c_mp c_nck c_mks c_appn c_mkm c_mput c_mlk c_mrm c_take c_ld c_ldF c_cellsK c_st c_fld c_fldv c_ix c_ixp c_ixv c_ixs c_sub c_subs c_len c_lens c_src c_dst c_ow c_app c_ext c_mm c_conv c_str c_isn c_fill c_rows c_boxo c_frz c_frzO c_frzA c_frzV c_spec c_specO c_opsP c_opP c_runP c_specP c_Z c_qretP c_fz c_fn c_gv c_cond c_res1 c_resL c_ret c_qret c_ite c_unr c_nx c_bk c_cut c_is
attribute [local irreducible] dwp

theorem open_sym (l : List Lk) (c d : List UInt8) : openB l c d = openB l d c := by
  unfold openB
  congr 2
  funext x
  unfold isP
  rw [decide_eq_decide]
  constructor <;> (rintro (h | h) <;> simp [h])
theorem any_insB (p : Lk → Bool) (l : List Lk) (q : Lk) : (insB l q).any p = (p q || l.any p) := by
  unfold insB
  have h := List.takeWhile_append_dropWhile (p := fun y => !gtL y q) (l := l)
  rw [List.any_append, List.any_cons]
  conv => rhs; rw [← h, List.any_append]
  cases p q <;> cases (List.takeWhile (fun y => !gtL y q) l).any p <;> simp
theorem isP_pr (a b : List UInt8) : isP a b (prR a b) = true := by
  have h := (pr_eq a b (prR a b).1 (prR a b).2)
  unfold isP prR
  split <;> simp
theorem isP_pr2 (a b c d : List UInt8) (h : ¬ (a = c ∧ b = d ∨ a = d ∧ b = c)) : isP c d (prR a b) = false := by
  unfold isP prR
  rw [decide_eq_false_iff_not]
  split
  · rintro (⟨h1, h2⟩ | ⟨h1, h2⟩)
    · exact h (.inr ⟨h2, h1⟩)
    · exact h (.inl ⟨h2, h1⟩)
  · rintro (⟨h1, h2⟩ | ⟨h1, h2⟩)
    · exact h (.inl ⟨h1, h2⟩)
    · exact h (.inr ⟨h1, h2⟩)
theorem keep_none (a b : List UInt8) (l : List Lk) : (keepL a b l).any (isP a b) = false := by
  unfold keepL
  rw [List.any_eq_false]
  intro x hx
  have := (List.mem_filter.1 hx).2
  simpa using this
theorem keep_other (a b c d : List UInt8) (l : List Lk) (h : ¬ (a = c ∧ b = d ∨ a = d ∧ b = c)) : (keepL a b l).any (isP c d) = l.any (isP c d) := by
  rw [Bool.eq_iff_iff]
  unfold keepL
  simp only [List.any_eq_true, List.mem_filter]
  constructor
  · rintro ⟨x, ⟨h1, _⟩, h2⟩; exact ⟨x, h1, h2⟩
  · rintro ⟨x, h1, h2⟩
    refine ⟨x, ⟨h1, ?_⟩, h2⟩
    simp only [isP, decide_eq_true_eq, Bool.not_eq_true', decide_eq_false_iff_not] at h2 ⊢
    rintro (⟨e1, e2⟩ | ⟨e1, e2⟩) <;> rcases h2 with ⟨f1, f2⟩ | ⟨f1, f2⟩
    · exact h (.inl ⟨e1.symm.trans f1, e2.symm.trans f2⟩)
    · exact h (.inr ⟨e1.symm.trans f1, e2.symm.trans f2⟩)
    · exact h (.inr ⟨e2.symm.trans f2, e1.symm.trans f1⟩)
    · exact h (.inl ⟨e2.symm.trans f2, e1.symm.trans f1⟩)
theorem keep_keep (a b : List UInt8) (l : List Lk) : keepL a b (keepL a b l) = keepL a b l := by
  unfold keepL
  simp
theorem keep_insB (a b : List UInt8) (l : List Lk) : keepL a b (insB (keepL a b l) (prR a b)) = keepL a b l := by
  have h := List.takeWhile_append_dropWhile (p := fun y => !gtL y (prR a b)) (l := keepL a b l)
  unfold insB
  generalize List.takeWhile (fun y => !gtL y (prR a b)) (keepL a b l) = A at h ⊢
  generalize List.dropWhile (fun y => !gtL y (prR a b)) (keepL a b l) = B at h ⊢
  have h2 : keepL a b (A ++ prR a b :: B) = keepL a b (A ++ B) := by
    unfold keepL
    rw [List.filter_append, List.filter_cons, isP_pr, List.filter_append]
    rfl
  rw [h2, h, keep_keep]
theorem links_facts (nw : Ntw) (a b : List UInt8) (iz : Bool) : ∃ xc, cutR nw a b iz = ⟨nw.packets, xc⟩ ∧ xc.length ≤ nw.cuts.length + 1 ∧ openB xc a b = !iz ∧ openB xc b a = !iz ∧ (∀ c d, ¬ (a = c ∧ b = d ∨ a = d ∧ b = c) → openB xc c d = openB nw.cuts c d) ∧ cutR ⟨nw.packets, xc⟩ a b iz = ⟨nw.packets, xc⟩ := by
  unfold cutR
  refine ⟨_, rfl, ?_, ?_, ?_, ?_, ?_⟩
  · cases iz
    · have := keep_len a b nw.cuts
      simp
      omega
    · have h1 := keep_len a b nw.cuts
      have h2 := congrArg List.length (List.takeWhile_append_dropWhile (p := fun y => !gtL y (prR a b)) (l := keepL a b nw.cuts))
      simp only [if_true, insB, List.length_append, List.length_cons] at h2 ⊢
      omega
  · cases iz
    · simp [openB, keep_none]
    · simp [openB, any_insB, isP_pr]
  · rw [open_sym]
    cases iz
    · simp [openB, keep_none]
    · simp [openB, any_insB, isP_pr]
  · intro c d h
    cases iz
    · simp only [openB, Bool.false_eq_true, if_false, keep_other a b c d _ h]
    · simp only [openB, if_true, any_insB, isP_pr2 a b c d h, keep_other a b c d _ h, Bool.false_or]
  · cases iz
    · simp only [Bool.false_eq_true, if_false, keep_keep]
    · simp only [if_true, keep_insB]
def ac7 : AC := (.seq (.ops [⟨(some 3), none, (.box (.t 0))⟩, ⟨(some 4), none, (.box (.t 1))⟩, ⟨(some 6), none, (.mv (.c (.bool false)))⟩]) (.seq (.seq (.ops [⟨(some 14), none, (.ld true 2 (.t 3))⟩, ⟨(some 15), none, (.call false 9 [(.t 14)])⟩, ⟨(some 16), none, (.mv (.t 15))⟩, ⟨(some 17), (some (16, false)), (.ixp 4 1 (.t 4) (.c (.int .i64 0)))⟩, ⟨(some 18), (some (16, false)), (.ld false 1 (.t 17))⟩, ⟨(some 19), (some (16, false)), (.lens (.t 18))⟩, ⟨(some 20), (some (16, false)), (.bin .gtr (.t 19) (.c (.int .i64 100)))⟩, ⟨(some 21), none, (.pick (.t 16) (.c (.bool true)) (.t 20))⟩, ⟨(some 22), none, (.mv (.t 21))⟩, ⟨(some 23), (some (22, false)), (.ixp 4 1 (.t 4) (.c (.int .i64 1)))⟩, ⟨(some 24), (some (22, false)), (.ld false 1 (.t 23))⟩, ⟨(some 25), (some (22, false)), (.lens (.t 24))⟩, ⟨(some 26), (some (22, false)), (.bin .gtr (.t 25) (.c (.int .i64 100)))⟩, ⟨(some 27), none, (.pick (.t 22) (.c (.bool true)) (.t 26))⟩]) (.cond (.t 27) (.seq (.ops [⟨(some 28), none, (.call false 11 [])⟩, ⟨(some 6), none, (.mv (.t 28))⟩]) .ret) .skip)) (.seq (.draw (.q false ⟨(some 29), none, (.ixp 4 1 (.t 4) (.c (.int .i64 0)))⟩ (.q false ⟨(some 30), none, (.ld false 1 (.t 29))⟩ (.q false ⟨(some 31), none, (.ixp 4 1 (.t 4) (.c (.int .i64 1)))⟩ (.q false ⟨(some 32), none, (.ld false 1 (.t 31))⟩ (.q false ⟨(some 33), none, (.ixp 4 1 (.t 4) (.c (.int .i64 2)))⟩ (.q false ⟨(some 34), none, (.ld false 1 (.t 33))⟩ (.q false ⟨(some 35), none, (.ixp 4 1 (.t 4) (.c (.int .i64 3)))⟩ (.q false ⟨(some 36), none, (.ld false 1 (.t 35))⟩ (.q false ⟨(some 7), none, (.mv (.t 30))⟩ (.q false ⟨(some 8), none, (.mv (.t 32))⟩ (.q false ⟨(some 9), none, (.mv (.t 34))⟩ (.q false ⟨(some 10), none, (.mv (.t 36))⟩ .nil))))))))))))) (.seq (.ops [⟨(some 37), none, (.ld true 2 (.t 3))⟩, ⟨(some 38), none, (.mv (.t 7))⟩, ⟨(some 39), none, (.mv (.t 8))⟩, ⟨(some 40), none, (.mv (.t 2))⟩, ⟨(some 41), none, (.call false 15 [(.t 37), (.t 38), (.t 39), (.t 40)])⟩, ⟨(some 11), none, (.alloc [.e0, .e0])⟩, ⟨none, none, (.sto 2 (.t 11) (.t 41))⟩]) (.seq (.seq (.draw (.q false ⟨(some 42), none, (.ld true 2 (.t 11))⟩ (.q false ⟨(some 43), none, (.mv (.t 7))⟩ (.q false ⟨(some 44), none, (.mv (.t 8))⟩ (.q false ⟨(some 46), none, (.mv (.t 2))⟩ (.op ⟨(some 45), none, (.call false 17 [(.t 42), (.t 43), (.t 44)])⟩ (.q false ⟨(some 47), none, (.beq false (.t 45) (.t 46))⟩ (.q false ⟨(some 48), none, (.mv (.t 47))⟩ (.q false ⟨(some 49), (some (48, false)), (.ld true 2 (.t 11))⟩ (.q false ⟨(some 50), (some (48, false)), (.mv (.t 8))⟩ (.q false ⟨(some 51), (some (48, false)), (.mv (.t 7))⟩ (.q false ⟨(some 53), (some (48, false)), (.mv (.t 2))⟩ (.op ⟨(some 52), (some (48, false)), (.call false 17 [(.t 49), (.t 50), (.t 51)])⟩ (.q false ⟨(some 54), (some (48, false)), (.beq false (.t 52) (.t 53))⟩ (.q false ⟨(some 55), none, (.pick (.t 48) (.c (.bool true)) (.t 54))⟩ (.q false ⟨(some 56), none, (.mv (.t 55))⟩ (.q false ⟨(some 57), (some (56, false)), (.ld true 2 (.t 11))⟩ (.q false ⟨(some 58), (some (56, false)), (.mv (.t 9))⟩ (.q false ⟨(some 59), (some (56, false)), (.mv (.t 10))⟩ (.q false ⟨(some 61), (some (56, false)), (.ld true 2 (.t 11))⟩ (.q false ⟨(some 62), (some (56, false)), (.mv (.t 10))⟩ (.q false ⟨(some 63), (some (56, false)), (.mv (.t 9))⟩ (.op ⟨(some 60), (some (56, false)), (.call false 17 [(.t 57), (.t 58), (.t 59)])⟩ (.op ⟨(some 64), (some (56, false)), (.call false 17 [(.t 61), (.t 62), (.t 63)])⟩ (.q false ⟨(some 65), (some (56, false)), (.beq true (.t 60) (.t 64))⟩ (.q false ⟨(some 66), none, (.pick (.t 56) (.c (.bool true)) (.t 65))⟩ .nil)))))))))))))))))))))))))) (.cond (.t 66) (.seq (.ops [⟨(some 6), none, (.mv (.c (.bool false)))⟩]) .ret) .skip)) (.seq (.ops [⟨(some 67), none, (.mv (.t 7))⟩, ⟨(some 68), none, (.mv (.t 9))⟩, ⟨(some 69), none, (.bin .eql (.t 67) (.t 68))⟩, ⟨(some 70), none, (.mv (.t 69))⟩, ⟨(some 71), (some (70, true)), (.mv (.t 8))⟩, ⟨(some 72), (some (70, true)), (.mv (.t 10))⟩, ⟨(some 73), (some (70, true)), (.bin .eql (.t 71) (.t 72))⟩, ⟨(some 74), none, (.pick (.t 70) (.t 73) (.c (.bool false)))⟩, ⟨(some 75), none, (.mv (.t 74))⟩, ⟨(some 76), (some (75, false)), (.mv (.t 7))⟩, ⟨(some 77), (some (75, false)), (.mv (.t 10))⟩, ⟨(some 78), (some (75, false)), (.bin .eql (.t 76) (.t 77))⟩, ⟨(some 79), (some (75, false)), (.mv (.t 78))⟩, ⟨(some 80), (some (79, true)), (.mv (.t 8))⟩, ⟨(some 81), (some (79, true)), (.mv (.t 9))⟩, ⟨(some 82), (some (79, true)), (.bin .eql (.t 80) (.t 81))⟩, ⟨(some 83), (some (75, false)), (.pick (.t 79) (.t 82) (.c (.bool false)))⟩, ⟨(some 84), none, (.pick (.t 75) (.c (.bool true)) (.t 83))⟩, ⟨(some 85), none, (.nt (.t 84))⟩, ⟨(some 12), none, (.mv (.t 85))⟩]) (.seq (.seq (.draw (.q false ⟨(some 86), none, (.mv (.t 12))⟩ (.q false ⟨(some 87), none, (.mv (.t 86))⟩ (.q false ⟨(some 88), (some (87, true)), (.ld true 2 (.t 11))⟩ (.q false ⟨(some 89), (some (87, true)), (.mv (.t 9))⟩ (.q false ⟨(some 90), (some (87, true)), (.mv (.t 10))⟩ (.q false ⟨(some 92), (some (87, true)), (.ld true 2 (.t 3))⟩ (.q false ⟨(some 93), (some (87, true)), (.mv (.t 9))⟩ (.q false ⟨(some 94), (some (87, true)), (.mv (.t 10))⟩ (.op ⟨(some 91), (some (87, true)), (.call false 17 [(.t 88), (.t 89), (.t 90)])⟩ (.op ⟨(some 95), (some (87, true)), (.call false 17 [(.t 92), (.t 93), (.t 94)])⟩ (.q false ⟨(some 96), (some (87, true)), (.beq true (.t 91) (.t 95))⟩ (.q false ⟨(some 97), none, (.pick (.t 87) (.t 96) (.c (.bool false)))⟩ .nil))))))))))))) (.cond (.t 97) (.seq (.ops [⟨(some 6), none, (.mv (.c (.bool false)))⟩]) .ret) .skip)) (.seq (.ops [⟨(some 98), none, (.ld true 2 (.t 11))⟩, ⟨(some 13), none, (.alloc [.e0, .e0])⟩, ⟨none, none, (.sto 2 (.t 13) (.t 98))⟩]) (.seq (.ops [⟨(some 99), none, (.fld 1 (.t 3))⟩, ⟨(some 100), none, (.ld false 1 (.t 99))⟩, ⟨(some 101), none, (.fld 1 (.t 13))⟩, ⟨none, none, (.sto 1 (.t 101) (.t 100))⟩]) (.seq (.draw (.q false ⟨(some 102), none, (.ld true 2 (.t 13))⟩ (.q false ⟨(some 103), none, (.ld true 2 (.t 3))⟩ (.op ⟨(some 104), none, (.call false 14 [(.t 102), (.t 103)])⟩ (.q false ⟨(some 105), none, (.mv (.t 104))⟩ (.q false ⟨(some 106), (some (105, true)), (.ld true 2 (.t 11))⟩ (.q false ⟨(some 107), (some (105, true)), (.mv (.t 7))⟩ (.q false ⟨(some 108), (some (105, true)), (.mv (.t 8))⟩ (.q false ⟨(some 109), (some (105, true)), (.mv (.t 2))⟩ (.q false ⟨(some 111), (some (105, true)), (.ld true 2 (.t 11))⟩ (.op ⟨(some 110), (some (105, true)), (.call false 15 [(.t 106), (.t 107), (.t 108), (.t 109)])⟩ (.op ⟨(some 112), (some (105, true)), (.call false 14 [(.t 110), (.t 111)])⟩ (.q false ⟨(some 113), none, (.pick (.t 105) (.t 112) (.c (.bool false)))⟩ (.q false ⟨(some 114), none, (.mv (.t 113))⟩ (.op ⟨(some 115), (some (114, true)), (.call false 11 [])⟩ (.q false ⟨(some 116), none, (.pick (.t 114) (.t 115) (.c (.bool false)))⟩ (.q false ⟨(some 6), none, (.mv (.t 116))⟩ .nil))))))))))))))))) .ret))))))))))
theorem tr7 : Try.f7.body.bind (trCode Try.prog) = some (strip ac7) := by kernel_rfl
theorem spec7 (nw : Ntw) (a b c d : List UInt8) (iz : Bool) : Spec Try.prog 7 [.fz (.agg (encNw nw)), .fz (.agg [.str a, .str b, .str c, .str d]), .fz (.bool iz)] (.fz (.bool true)) := by
  refine spec_at (n := 114) (ars := [(.t 6)]) (ac := ac7) Try.func7 (by kernel_rfl) (by kernel_rfl) tr7 (by kernel_rfl) ?_
  unfold ac7
  by_cases hg : greatN nw = true
  · skip
    iterate 40 (all_goals (try (first
      | ((with_reducible refine of_kSpec ?_)
         refine call_sub (ds' := [.agg (encNw nw)]) (spec9 nw) rfl ?_ ?_
         · simp -implicitDefEqProofs only [SD, SF, SL, e_nf, reduceCtorEq, implies_true, ↓reduceIte, Nat.reduceEqDiff, Nat.reduceAdd, Nat.reduceMul, Nat.reduceSub, Nat.reduceLeDiff, Nat.reduceLT, Int.reduceLT, Int.reduceLE, Int.reduceEq, Int.reduceToNat, Int.reduceAdd, Int.reduceSub, Int.reduceNeg, Int.reduceBEq, Int.reduceBNe, Nat.reduceBEq, Int.cast_ofNat_Int, decide_true, decide_false, ne_eq, eq_self_iff_true, beq_eq_false_iff_ne, bne_iff_ne, List.replicate, encNw, encPk, *]
           done)
      | ((with_reducible refine of_kSpec ?_); refine call_fz (spec11) rfl ?_)
      | (with_reducible refine ite_in (fun _ => ?_) (fun _ => ?_))
      | (with_reducible refine ⟨fun _ => ?_, fun _ => ?_⟩)
      | (with_reducible refine And.intro ?_ ?_)
      | (with_reducible intro _)
      | (with_reducible exact is_in _)
      | (simp -implicitDefEqProofs only [SD, SF, SL, e_nf, reduceCtorEq, implies_true, ↓reduceIte, Nat.reduceEqDiff, Nat.reduceAdd, Nat.reduceMul, Nat.reduceSub, Nat.reduceLeDiff, Nat.reduceLT, Int.reduceLT, Int.reduceLE, Int.reduceEq, Int.reduceToNat, Int.reduceAdd, Int.reduceSub, Int.reduceNeg, Int.reduceBEq, Int.reduceBNe, Nat.reduceBEq, Int.cast_ofNat_Int, decide_true, decide_false, ne_eq, eq_self_iff_true, beq_eq_false_iff_ne, bne_iff_ne, List.replicate, encNw, encPk, *]))))
    all_goals (first | (simp_all; done) | (simp_all; omega))
  obtain ⟨hz1, hz2⟩ := greatN_sz hg
  by_cases hn : 100 < a.length ∨ 100 < b.length
  · skip
    iterate 40 (all_goals (try (first
      | ((with_reducible refine of_kSpec ?_)
         refine call_sub (ds' := [.agg (encNw nw)]) (spec9 nw) rfl ?_ ?_
         · simp -implicitDefEqProofs only [SD, SF, SL, e_nf, reduceCtorEq, implies_true, ↓reduceIte, Nat.reduceEqDiff, Nat.reduceAdd, Nat.reduceMul, Nat.reduceSub, Nat.reduceLeDiff, Nat.reduceLT, Int.reduceLT, Int.reduceLE, Int.reduceEq, Int.reduceToNat, Int.reduceAdd, Int.reduceSub, Int.reduceNeg, Int.reduceBEq, Int.reduceBNe, Nat.reduceBEq, Int.cast_ofNat_Int, decide_true, decide_false, ne_eq, eq_self_iff_true, beq_eq_false_iff_ne, bne_iff_ne, List.replicate, encNw, encPk, *]
           done)
      | ((with_reducible refine of_kSpec ?_); refine call_fz (spec11) rfl ?_)
      | (with_reducible refine ite_in (fun _ => ?_) (fun _ => ?_))
      | (with_reducible refine ⟨fun _ => ?_, fun _ => ?_⟩)
      | (with_reducible refine And.intro ?_ ?_)
      | (with_reducible intro _)
      | (with_reducible exact is_in _)
      | (simp -implicitDefEqProofs only [SD, SF, SL, e_nf, reduceCtorEq, implies_true, ↓reduceIte, Nat.reduceEqDiff, Nat.reduceAdd, Nat.reduceMul, Nat.reduceSub, Nat.reduceLeDiff, Nat.reduceLT, Int.reduceLT, Int.reduceLE, Int.reduceEq, Int.reduceToNat, Int.reduceAdd, Int.reduceSub, Int.reduceNeg, Int.reduceBEq, Int.reduceBNe, Nat.reduceBEq, Int.cast_ofNat_Int, decide_true, decide_false, ne_eq, eq_self_iff_true, beq_eq_false_iff_ne, bne_iff_ne, List.replicate, encNw, encPk, *]))))
    all_goals (first | (simp_all; done) | (simp_all; omega))
  cases iz
  · skip
    obtain ⟨xc, hx, hl, o1, o2, o4, hi⟩ := links_facts nw a b false
    have o3 := open_sym xc c d
    replace o4 := o4 c d
    simp only [Bool.not_true, Bool.not_false] at o1 o2
    have h1 := spec15 nw a b false (by omega)
    have h2 := spec15 ⟨nw.packets, xc⟩ a b false (by simp only; omega)
    rw [hx] at h1
    rw [hi] at h2
    have g1 := spec17 ⟨nw.packets, xc⟩ a b
    have g2 := spec17 ⟨nw.packets, xc⟩ b a
    have g3 := spec17 ⟨nw.packets, xc⟩ c d
    have g4 := spec17 ⟨nw.packets, xc⟩ d c
    have g5 := spec17 nw c d
    dsimp only at g1 g2 g3 g4
    rw [o1] at g1
    rw [o2] at g2
    rw [← o3] at g4
    obtain ⟨b1, hb1⟩ : ∃ r, r = openB xc c d := ⟨_, rfl⟩
    obtain ⟨b2, hb2⟩ : ∃ r, r = openB nw.cuts c d := ⟨_, rfl⟩
    rw [← hb1] at g3 g4 o4
    rw [← hb2] at g5 o4
    clear hb1 hb2 o1 o2 o3 hx hi
    by_cases hoth : (a = c ∧ b = d ∨ a = d ∧ b = c)
    · clear o4
      iterate 160 (all_goals (try (first
        | ((with_reducible refine of_kSpec ?_)
           refine call_sub (ds' := [.agg (encNw nw)]) (spec9 nw) rfl ?_ ?_
           · simp -implicitDefEqProofs only [SD, SF, SL, e_nf, reduceCtorEq, implies_true, ↓reduceIte, Nat.reduceEqDiff, Nat.reduceAdd, Nat.reduceMul, Nat.reduceSub, Nat.reduceLeDiff, Nat.reduceLT, Int.reduceLT, Int.reduceLE, Int.reduceEq, Int.reduceToNat, Int.reduceAdd, Int.reduceSub, Int.reduceNeg, Int.reduceBEq, Int.reduceBNe, Nat.reduceBEq, Int.cast_ofNat_Int, decide_true, decide_false, ne_eq, eq_self_iff_true, beq_eq_false_iff_ne, bne_iff_ne, List.replicate, encNw, encPk, *]
             done)
        | ((with_reducible refine of_kSpec ?_)
           refine call_sub (ds' := [.agg (encNw nw), .str a, .str b, .bool false]) (h1) rfl ?_ ?_
           · simp -implicitDefEqProofs only [SD, SF, SL, e_nf, reduceCtorEq, implies_true, ↓reduceIte, Nat.reduceEqDiff, Nat.reduceAdd, Nat.reduceMul, Nat.reduceSub, Nat.reduceLeDiff, Nat.reduceLT, Int.reduceLT, Int.reduceLE, Int.reduceEq, Int.reduceToNat, Int.reduceAdd, Int.reduceSub, Int.reduceNeg, Int.reduceBEq, Int.reduceBNe, Nat.reduceBEq, Int.cast_ofNat_Int, decide_true, decide_false, ne_eq, eq_self_iff_true, beq_eq_false_iff_ne, bne_iff_ne, List.replicate, encNw, encPk, *]
             done)
        | ((with_reducible refine of_kSpec ?_)
           refine call_sub (ds' := [.agg (encNw ⟨nw.packets, xc⟩), .str a, .str b, .bool false]) (h2) rfl ?_ ?_
           · simp -implicitDefEqProofs only [SD, SF, SL, e_nf, reduceCtorEq, implies_true, ↓reduceIte, Nat.reduceEqDiff, Nat.reduceAdd, Nat.reduceMul, Nat.reduceSub, Nat.reduceLeDiff, Nat.reduceLT, Int.reduceLT, Int.reduceLE, Int.reduceEq, Int.reduceToNat, Int.reduceAdd, Int.reduceSub, Int.reduceNeg, Int.reduceBEq, Int.reduceBNe, Nat.reduceBEq, Int.cast_ofNat_Int, decide_true, decide_false, ne_eq, eq_self_iff_true, beq_eq_false_iff_ne, bne_iff_ne, List.replicate, encNw, encPk, *]
             done)
        | ((with_reducible refine of_kSpec ?_)
           refine call_sub (ds' := [.agg (encNw ⟨nw.packets, xc⟩), .str a, .str b]) (g1) rfl ?_ ?_
           · simp -implicitDefEqProofs only [SD, SF, SL, e_nf, reduceCtorEq, implies_true, ↓reduceIte, Nat.reduceEqDiff, Nat.reduceAdd, Nat.reduceMul, Nat.reduceSub, Nat.reduceLeDiff, Nat.reduceLT, Int.reduceLT, Int.reduceLE, Int.reduceEq, Int.reduceToNat, Int.reduceAdd, Int.reduceSub, Int.reduceNeg, Int.reduceBEq, Int.reduceBNe, Nat.reduceBEq, Int.cast_ofNat_Int, decide_true, decide_false, ne_eq, eq_self_iff_true, beq_eq_false_iff_ne, bne_iff_ne, List.replicate, encNw, encPk, *]
             done)
        | ((with_reducible refine of_kSpec ?_)
           refine call_sub (ds' := [.agg (encNw ⟨nw.packets, xc⟩), .str b, .str a]) (g2) rfl ?_ ?_
           · simp -implicitDefEqProofs only [SD, SF, SL, e_nf, reduceCtorEq, implies_true, ↓reduceIte, Nat.reduceEqDiff, Nat.reduceAdd, Nat.reduceMul, Nat.reduceSub, Nat.reduceLeDiff, Nat.reduceLT, Int.reduceLT, Int.reduceLE, Int.reduceEq, Int.reduceToNat, Int.reduceAdd, Int.reduceSub, Int.reduceNeg, Int.reduceBEq, Int.reduceBNe, Nat.reduceBEq, Int.cast_ofNat_Int, decide_true, decide_false, ne_eq, eq_self_iff_true, beq_eq_false_iff_ne, bne_iff_ne, List.replicate, encNw, encPk, *]
             done)
        | ((with_reducible refine of_kSpec ?_)
           refine call_sub (ds' := [.agg (encNw ⟨nw.packets, xc⟩), .str c, .str d]) (g3) rfl ?_ ?_
           · simp -implicitDefEqProofs only [SD, SF, SL, e_nf, reduceCtorEq, implies_true, ↓reduceIte, Nat.reduceEqDiff, Nat.reduceAdd, Nat.reduceMul, Nat.reduceSub, Nat.reduceLeDiff, Nat.reduceLT, Int.reduceLT, Int.reduceLE, Int.reduceEq, Int.reduceToNat, Int.reduceAdd, Int.reduceSub, Int.reduceNeg, Int.reduceBEq, Int.reduceBNe, Nat.reduceBEq, Int.cast_ofNat_Int, decide_true, decide_false, ne_eq, eq_self_iff_true, beq_eq_false_iff_ne, bne_iff_ne, List.replicate, encNw, encPk, *]
             done)
        | ((with_reducible refine of_kSpec ?_)
           refine call_sub (ds' := [.agg (encNw ⟨nw.packets, xc⟩), .str d, .str c]) (g4) rfl ?_ ?_
           · simp -implicitDefEqProofs only [SD, SF, SL, e_nf, reduceCtorEq, implies_true, ↓reduceIte, Nat.reduceEqDiff, Nat.reduceAdd, Nat.reduceMul, Nat.reduceSub, Nat.reduceLeDiff, Nat.reduceLT, Int.reduceLT, Int.reduceLE, Int.reduceEq, Int.reduceToNat, Int.reduceAdd, Int.reduceSub, Int.reduceNeg, Int.reduceBEq, Int.reduceBNe, Nat.reduceBEq, Int.cast_ofNat_Int, decide_true, decide_false, ne_eq, eq_self_iff_true, beq_eq_false_iff_ne, bne_iff_ne, List.replicate, encNw, encPk, *]
             done)
        | ((with_reducible refine of_kSpec ?_)
           refine call_sub (ds' := [.agg (encNw nw), .str c, .str d]) (g5) rfl ?_ ?_
           · simp -implicitDefEqProofs only [SD, SF, SL, e_nf, reduceCtorEq, implies_true, ↓reduceIte, Nat.reduceEqDiff, Nat.reduceAdd, Nat.reduceMul, Nat.reduceSub, Nat.reduceLeDiff, Nat.reduceLT, Int.reduceLT, Int.reduceLE, Int.reduceEq, Int.reduceToNat, Int.reduceAdd, Int.reduceSub, Int.reduceNeg, Int.reduceBEq, Int.reduceBNe, Nat.reduceBEq, Int.cast_ofNat_Int, decide_true, decide_false, ne_eq, eq_self_iff_true, beq_eq_false_iff_ne, bne_iff_ne, List.replicate, encNw, encPk, *]
             done)
        | ((with_reducible refine of_kSpec ?_)
           refine call_sub (ds' := [.agg (encNw nw), .agg (encNw nw)]) (spec14 nw nw) rfl ?_ ?_
           · simp -implicitDefEqProofs only [SD, SF, SL, e_nf, reduceCtorEq, implies_true, ↓reduceIte, Nat.reduceEqDiff, Nat.reduceAdd, Nat.reduceMul, Nat.reduceSub, Nat.reduceLeDiff, Nat.reduceLT, Int.reduceLT, Int.reduceLE, Int.reduceEq, Int.reduceToNat, Int.reduceAdd, Int.reduceSub, Int.reduceNeg, Int.reduceBEq, Int.reduceBNe, Nat.reduceBEq, Int.cast_ofNat_Int, decide_true, decide_false, ne_eq, eq_self_iff_true, beq_eq_false_iff_ne, bne_iff_ne, List.replicate, encNw, encPk, *]
             done)
        | ((with_reducible refine of_kSpec ?_)
           refine call_sub (ds' := [.agg (encNw ⟨nw.packets, xc⟩), .agg (encNw ⟨nw.packets, xc⟩)]) (spec14 ⟨nw.packets, xc⟩ ⟨nw.packets, xc⟩) rfl ?_ ?_
           · simp -implicitDefEqProofs only [SD, SF, SL, e_nf, reduceCtorEq, implies_true, ↓reduceIte, Nat.reduceEqDiff, Nat.reduceAdd, Nat.reduceMul, Nat.reduceSub, Nat.reduceLeDiff, Nat.reduceLT, Int.reduceLT, Int.reduceLE, Int.reduceEq, Int.reduceToNat, Int.reduceAdd, Int.reduceSub, Int.reduceNeg, Int.reduceBEq, Int.reduceBNe, Nat.reduceBEq, Int.cast_ofNat_Int, decide_true, decide_false, ne_eq, eq_self_iff_true, beq_eq_false_iff_ne, bne_iff_ne, List.replicate, encNw, encPk, *]
             done)
        | ((with_reducible refine of_kSpec ?_); refine call_fz (spec11) rfl ?_)
        | (with_reducible refine ite_in (fun _ => ?_) (fun _ => ?_))
        | (with_reducible refine ⟨fun _ => ?_, fun _ => ?_⟩)
        | (with_reducible refine And.intro ?_ ?_)
        | (with_reducible intro _)
        | (with_reducible exact is_in _)
        | (simp -implicitDefEqProofs only [SD, SF, SL, e_nf, reduceCtorEq, implies_true, ↓reduceIte, Nat.reduceEqDiff, Nat.reduceAdd, Nat.reduceMul, Nat.reduceSub, Nat.reduceLeDiff, Nat.reduceLT, Int.reduceLT, Int.reduceLE, Int.reduceEq, Int.reduceToNat, Int.reduceAdd, Int.reduceSub, Int.reduceNeg, Int.reduceBEq, Int.reduceBNe, Nat.reduceBEq, Int.cast_ofNat_Int, decide_true, decide_false, ne_eq, eq_self_iff_true, beq_eq_false_iff_ne, bne_iff_ne, List.replicate, encNw, encPk, beq_self_eq_true, bne_self_eq_false, *]))))
      all_goals (first | (simp_all; done) | (simp_all; omega) | grind)
    · obtain rfl := o4 hoth
      clear o4
      iterate 160 (all_goals (try (first
        | ((with_reducible refine of_kSpec ?_)
           refine call_sub (ds' := [.agg (encNw nw)]) (spec9 nw) rfl ?_ ?_
           · simp -implicitDefEqProofs only [SD, SF, SL, e_nf, reduceCtorEq, implies_true, ↓reduceIte, Nat.reduceEqDiff, Nat.reduceAdd, Nat.reduceMul, Nat.reduceSub, Nat.reduceLeDiff, Nat.reduceLT, Int.reduceLT, Int.reduceLE, Int.reduceEq, Int.reduceToNat, Int.reduceAdd, Int.reduceSub, Int.reduceNeg, Int.reduceBEq, Int.reduceBNe, Nat.reduceBEq, Int.cast_ofNat_Int, decide_true, decide_false, ne_eq, eq_self_iff_true, beq_eq_false_iff_ne, bne_iff_ne, List.replicate, encNw, encPk, *]
             done)
        | ((with_reducible refine of_kSpec ?_)
           refine call_sub (ds' := [.agg (encNw nw), .str a, .str b, .bool false]) (h1) rfl ?_ ?_
           · simp -implicitDefEqProofs only [SD, SF, SL, e_nf, reduceCtorEq, implies_true, ↓reduceIte, Nat.reduceEqDiff, Nat.reduceAdd, Nat.reduceMul, Nat.reduceSub, Nat.reduceLeDiff, Nat.reduceLT, Int.reduceLT, Int.reduceLE, Int.reduceEq, Int.reduceToNat, Int.reduceAdd, Int.reduceSub, Int.reduceNeg, Int.reduceBEq, Int.reduceBNe, Nat.reduceBEq, Int.cast_ofNat_Int, decide_true, decide_false, ne_eq, eq_self_iff_true, beq_eq_false_iff_ne, bne_iff_ne, List.replicate, encNw, encPk, *]
             done)
        | ((with_reducible refine of_kSpec ?_)
           refine call_sub (ds' := [.agg (encNw ⟨nw.packets, xc⟩), .str a, .str b, .bool false]) (h2) rfl ?_ ?_
           · simp -implicitDefEqProofs only [SD, SF, SL, e_nf, reduceCtorEq, implies_true, ↓reduceIte, Nat.reduceEqDiff, Nat.reduceAdd, Nat.reduceMul, Nat.reduceSub, Nat.reduceLeDiff, Nat.reduceLT, Int.reduceLT, Int.reduceLE, Int.reduceEq, Int.reduceToNat, Int.reduceAdd, Int.reduceSub, Int.reduceNeg, Int.reduceBEq, Int.reduceBNe, Nat.reduceBEq, Int.cast_ofNat_Int, decide_true, decide_false, ne_eq, eq_self_iff_true, beq_eq_false_iff_ne, bne_iff_ne, List.replicate, encNw, encPk, *]
             done)
        | ((with_reducible refine of_kSpec ?_)
           refine call_sub (ds' := [.agg (encNw ⟨nw.packets, xc⟩), .str a, .str b]) (g1) rfl ?_ ?_
           · simp -implicitDefEqProofs only [SD, SF, SL, e_nf, reduceCtorEq, implies_true, ↓reduceIte, Nat.reduceEqDiff, Nat.reduceAdd, Nat.reduceMul, Nat.reduceSub, Nat.reduceLeDiff, Nat.reduceLT, Int.reduceLT, Int.reduceLE, Int.reduceEq, Int.reduceToNat, Int.reduceAdd, Int.reduceSub, Int.reduceNeg, Int.reduceBEq, Int.reduceBNe, Nat.reduceBEq, Int.cast_ofNat_Int, decide_true, decide_false, ne_eq, eq_self_iff_true, beq_eq_false_iff_ne, bne_iff_ne, List.replicate, encNw, encPk, *]
             done)
        | ((with_reducible refine of_kSpec ?_)
           refine call_sub (ds' := [.agg (encNw ⟨nw.packets, xc⟩), .str b, .str a]) (g2) rfl ?_ ?_
           · simp -implicitDefEqProofs only [SD, SF, SL, e_nf, reduceCtorEq, implies_true, ↓reduceIte, Nat.reduceEqDiff, Nat.reduceAdd, Nat.reduceMul, Nat.reduceSub, Nat.reduceLeDiff, Nat.reduceLT, Int.reduceLT, Int.reduceLE, Int.reduceEq, Int.reduceToNat, Int.reduceAdd, Int.reduceSub, Int.reduceNeg, Int.reduceBEq, Int.reduceBNe, Nat.reduceBEq, Int.cast_ofNat_Int, decide_true, decide_false, ne_eq, eq_self_iff_true, beq_eq_false_iff_ne, bne_iff_ne, List.replicate, encNw, encPk, *]
             done)
        | ((with_reducible refine of_kSpec ?_)
           refine call_sub (ds' := [.agg (encNw ⟨nw.packets, xc⟩), .str c, .str d]) (g3) rfl ?_ ?_
           · simp -implicitDefEqProofs only [SD, SF, SL, e_nf, reduceCtorEq, implies_true, ↓reduceIte, Nat.reduceEqDiff, Nat.reduceAdd, Nat.reduceMul, Nat.reduceSub, Nat.reduceLeDiff, Nat.reduceLT, Int.reduceLT, Int.reduceLE, Int.reduceEq, Int.reduceToNat, Int.reduceAdd, Int.reduceSub, Int.reduceNeg, Int.reduceBEq, Int.reduceBNe, Nat.reduceBEq, Int.cast_ofNat_Int, decide_true, decide_false, ne_eq, eq_self_iff_true, beq_eq_false_iff_ne, bne_iff_ne, List.replicate, encNw, encPk, *]
             done)
        | ((with_reducible refine of_kSpec ?_)
           refine call_sub (ds' := [.agg (encNw ⟨nw.packets, xc⟩), .str d, .str c]) (g4) rfl ?_ ?_
           · simp -implicitDefEqProofs only [SD, SF, SL, e_nf, reduceCtorEq, implies_true, ↓reduceIte, Nat.reduceEqDiff, Nat.reduceAdd, Nat.reduceMul, Nat.reduceSub, Nat.reduceLeDiff, Nat.reduceLT, Int.reduceLT, Int.reduceLE, Int.reduceEq, Int.reduceToNat, Int.reduceAdd, Int.reduceSub, Int.reduceNeg, Int.reduceBEq, Int.reduceBNe, Nat.reduceBEq, Int.cast_ofNat_Int, decide_true, decide_false, ne_eq, eq_self_iff_true, beq_eq_false_iff_ne, bne_iff_ne, List.replicate, encNw, encPk, *]
             done)
        | ((with_reducible refine of_kSpec ?_)
           refine call_sub (ds' := [.agg (encNw nw), .str c, .str d]) (g5) rfl ?_ ?_
           · simp -implicitDefEqProofs only [SD, SF, SL, e_nf, reduceCtorEq, implies_true, ↓reduceIte, Nat.reduceEqDiff, Nat.reduceAdd, Nat.reduceMul, Nat.reduceSub, Nat.reduceLeDiff, Nat.reduceLT, Int.reduceLT, Int.reduceLE, Int.reduceEq, Int.reduceToNat, Int.reduceAdd, Int.reduceSub, Int.reduceNeg, Int.reduceBEq, Int.reduceBNe, Nat.reduceBEq, Int.cast_ofNat_Int, decide_true, decide_false, ne_eq, eq_self_iff_true, beq_eq_false_iff_ne, bne_iff_ne, List.replicate, encNw, encPk, *]
             done)
        | ((with_reducible refine of_kSpec ?_)
           refine call_sub (ds' := [.agg (encNw nw), .agg (encNw nw)]) (spec14 nw nw) rfl ?_ ?_
           · simp -implicitDefEqProofs only [SD, SF, SL, e_nf, reduceCtorEq, implies_true, ↓reduceIte, Nat.reduceEqDiff, Nat.reduceAdd, Nat.reduceMul, Nat.reduceSub, Nat.reduceLeDiff, Nat.reduceLT, Int.reduceLT, Int.reduceLE, Int.reduceEq, Int.reduceToNat, Int.reduceAdd, Int.reduceSub, Int.reduceNeg, Int.reduceBEq, Int.reduceBNe, Nat.reduceBEq, Int.cast_ofNat_Int, decide_true, decide_false, ne_eq, eq_self_iff_true, beq_eq_false_iff_ne, bne_iff_ne, List.replicate, encNw, encPk, *]
             done)
        | ((with_reducible refine of_kSpec ?_)
           refine call_sub (ds' := [.agg (encNw ⟨nw.packets, xc⟩), .agg (encNw ⟨nw.packets, xc⟩)]) (spec14 ⟨nw.packets, xc⟩ ⟨nw.packets, xc⟩) rfl ?_ ?_
           · simp -implicitDefEqProofs only [SD, SF, SL, e_nf, reduceCtorEq, implies_true, ↓reduceIte, Nat.reduceEqDiff, Nat.reduceAdd, Nat.reduceMul, Nat.reduceSub, Nat.reduceLeDiff, Nat.reduceLT, Int.reduceLT, Int.reduceLE, Int.reduceEq, Int.reduceToNat, Int.reduceAdd, Int.reduceSub, Int.reduceNeg, Int.reduceBEq, Int.reduceBNe, Nat.reduceBEq, Int.cast_ofNat_Int, decide_true, decide_false, ne_eq, eq_self_iff_true, beq_eq_false_iff_ne, bne_iff_ne, List.replicate, encNw, encPk, *]
             done)
        | ((with_reducible refine of_kSpec ?_); refine call_fz (spec11) rfl ?_)
        | (with_reducible refine ite_in (fun _ => ?_) (fun _ => ?_))
        | (with_reducible refine ⟨fun _ => ?_, fun _ => ?_⟩)
        | (with_reducible refine And.intro ?_ ?_)
        | (with_reducible intro _)
        | (with_reducible exact is_in _)
        | (simp -implicitDefEqProofs only [SD, SF, SL, e_nf, reduceCtorEq, implies_true, ↓reduceIte, Nat.reduceEqDiff, Nat.reduceAdd, Nat.reduceMul, Nat.reduceSub, Nat.reduceLeDiff, Nat.reduceLT, Int.reduceLT, Int.reduceLE, Int.reduceEq, Int.reduceToNat, Int.reduceAdd, Int.reduceSub, Int.reduceNeg, Int.reduceBEq, Int.reduceBNe, Nat.reduceBEq, Int.cast_ofNat_Int, decide_true, decide_false, ne_eq, eq_self_iff_true, beq_eq_false_iff_ne, bne_iff_ne, List.replicate, encNw, encPk, beq_self_eq_true, bne_self_eq_false, *]))))
      all_goals (first | (simp_all; done) | (simp_all; omega) | grind)
  · skip
    obtain ⟨xc, hx, hl, o1, o2, o4, hi⟩ := links_facts nw a b true
    have o3 := open_sym xc c d
    replace o4 := o4 c d
    simp only [Bool.not_true, Bool.not_false] at o1 o2
    have h1 := spec15 nw a b true (by omega)
    have h2 := spec15 ⟨nw.packets, xc⟩ a b true (by simp only; omega)
    rw [hx] at h1
    rw [hi] at h2
    have g1 := spec17 ⟨nw.packets, xc⟩ a b
    have g2 := spec17 ⟨nw.packets, xc⟩ b a
    have g3 := spec17 ⟨nw.packets, xc⟩ c d
    have g4 := spec17 ⟨nw.packets, xc⟩ d c
    have g5 := spec17 nw c d
    dsimp only at g1 g2 g3 g4
    rw [o1] at g1
    rw [o2] at g2
    rw [← o3] at g4
    obtain ⟨b1, hb1⟩ : ∃ r, r = openB xc c d := ⟨_, rfl⟩
    obtain ⟨b2, hb2⟩ : ∃ r, r = openB nw.cuts c d := ⟨_, rfl⟩
    rw [← hb1] at g3 g4 o4
    rw [← hb2] at g5 o4
    clear hb1 hb2 o1 o2 o3 hx hi
    by_cases hoth : (a = c ∧ b = d ∨ a = d ∧ b = c)
    · clear o4
      iterate 160 (all_goals (try (first
        | ((with_reducible refine of_kSpec ?_)
           refine call_sub (ds' := [.agg (encNw nw)]) (spec9 nw) rfl ?_ ?_
           · simp -implicitDefEqProofs only [SD, SF, SL, e_nf, reduceCtorEq, implies_true, ↓reduceIte, Nat.reduceEqDiff, Nat.reduceAdd, Nat.reduceMul, Nat.reduceSub, Nat.reduceLeDiff, Nat.reduceLT, Int.reduceLT, Int.reduceLE, Int.reduceEq, Int.reduceToNat, Int.reduceAdd, Int.reduceSub, Int.reduceNeg, Int.reduceBEq, Int.reduceBNe, Nat.reduceBEq, Int.cast_ofNat_Int, decide_true, decide_false, ne_eq, eq_self_iff_true, beq_eq_false_iff_ne, bne_iff_ne, List.replicate, encNw, encPk, *]
             done)
        | ((with_reducible refine of_kSpec ?_)
           refine call_sub (ds' := [.agg (encNw nw), .str a, .str b, .bool true]) (h1) rfl ?_ ?_
           · simp -implicitDefEqProofs only [SD, SF, SL, e_nf, reduceCtorEq, implies_true, ↓reduceIte, Nat.reduceEqDiff, Nat.reduceAdd, Nat.reduceMul, Nat.reduceSub, Nat.reduceLeDiff, Nat.reduceLT, Int.reduceLT, Int.reduceLE, Int.reduceEq, Int.reduceToNat, Int.reduceAdd, Int.reduceSub, Int.reduceNeg, Int.reduceBEq, Int.reduceBNe, Nat.reduceBEq, Int.cast_ofNat_Int, decide_true, decide_false, ne_eq, eq_self_iff_true, beq_eq_false_iff_ne, bne_iff_ne, List.replicate, encNw, encPk, *]
             done)
        | ((with_reducible refine of_kSpec ?_)
           refine call_sub (ds' := [.agg (encNw ⟨nw.packets, xc⟩), .str a, .str b, .bool true]) (h2) rfl ?_ ?_
           · simp -implicitDefEqProofs only [SD, SF, SL, e_nf, reduceCtorEq, implies_true, ↓reduceIte, Nat.reduceEqDiff, Nat.reduceAdd, Nat.reduceMul, Nat.reduceSub, Nat.reduceLeDiff, Nat.reduceLT, Int.reduceLT, Int.reduceLE, Int.reduceEq, Int.reduceToNat, Int.reduceAdd, Int.reduceSub, Int.reduceNeg, Int.reduceBEq, Int.reduceBNe, Nat.reduceBEq, Int.cast_ofNat_Int, decide_true, decide_false, ne_eq, eq_self_iff_true, beq_eq_false_iff_ne, bne_iff_ne, List.replicate, encNw, encPk, *]
             done)
        | ((with_reducible refine of_kSpec ?_)
           refine call_sub (ds' := [.agg (encNw ⟨nw.packets, xc⟩), .str a, .str b]) (g1) rfl ?_ ?_
           · simp -implicitDefEqProofs only [SD, SF, SL, e_nf, reduceCtorEq, implies_true, ↓reduceIte, Nat.reduceEqDiff, Nat.reduceAdd, Nat.reduceMul, Nat.reduceSub, Nat.reduceLeDiff, Nat.reduceLT, Int.reduceLT, Int.reduceLE, Int.reduceEq, Int.reduceToNat, Int.reduceAdd, Int.reduceSub, Int.reduceNeg, Int.reduceBEq, Int.reduceBNe, Nat.reduceBEq, Int.cast_ofNat_Int, decide_true, decide_false, ne_eq, eq_self_iff_true, beq_eq_false_iff_ne, bne_iff_ne, List.replicate, encNw, encPk, *]
             done)
        | ((with_reducible refine of_kSpec ?_)
           refine call_sub (ds' := [.agg (encNw ⟨nw.packets, xc⟩), .str b, .str a]) (g2) rfl ?_ ?_
           · simp -implicitDefEqProofs only [SD, SF, SL, e_nf, reduceCtorEq, implies_true, ↓reduceIte, Nat.reduceEqDiff, Nat.reduceAdd, Nat.reduceMul, Nat.reduceSub, Nat.reduceLeDiff, Nat.reduceLT, Int.reduceLT, Int.reduceLE, Int.reduceEq, Int.reduceToNat, Int.reduceAdd, Int.reduceSub, Int.reduceNeg, Int.reduceBEq, Int.reduceBNe, Nat.reduceBEq, Int.cast_ofNat_Int, decide_true, decide_false, ne_eq, eq_self_iff_true, beq_eq_false_iff_ne, bne_iff_ne, List.replicate, encNw, encPk, *]
             done)
        | ((with_reducible refine of_kSpec ?_)
           refine call_sub (ds' := [.agg (encNw ⟨nw.packets, xc⟩), .str c, .str d]) (g3) rfl ?_ ?_
           · simp -implicitDefEqProofs only [SD, SF, SL, e_nf, reduceCtorEq, implies_true, ↓reduceIte, Nat.reduceEqDiff, Nat.reduceAdd, Nat.reduceMul, Nat.reduceSub, Nat.reduceLeDiff, Nat.reduceLT, Int.reduceLT, Int.reduceLE, Int.reduceEq, Int.reduceToNat, Int.reduceAdd, Int.reduceSub, Int.reduceNeg, Int.reduceBEq, Int.reduceBNe, Nat.reduceBEq, Int.cast_ofNat_Int, decide_true, decide_false, ne_eq, eq_self_iff_true, beq_eq_false_iff_ne, bne_iff_ne, List.replicate, encNw, encPk, *]
             done)
        | ((with_reducible refine of_kSpec ?_)
           refine call_sub (ds' := [.agg (encNw ⟨nw.packets, xc⟩), .str d, .str c]) (g4) rfl ?_ ?_
           · simp -implicitDefEqProofs only [SD, SF, SL, e_nf, reduceCtorEq, implies_true, ↓reduceIte, Nat.reduceEqDiff, Nat.reduceAdd, Nat.reduceMul, Nat.reduceSub, Nat.reduceLeDiff, Nat.reduceLT, Int.reduceLT, Int.reduceLE, Int.reduceEq, Int.reduceToNat, Int.reduceAdd, Int.reduceSub, Int.reduceNeg, Int.reduceBEq, Int.reduceBNe, Nat.reduceBEq, Int.cast_ofNat_Int, decide_true, decide_false, ne_eq, eq_self_iff_true, beq_eq_false_iff_ne, bne_iff_ne, List.replicate, encNw, encPk, *]
             done)
        | ((with_reducible refine of_kSpec ?_)
           refine call_sub (ds' := [.agg (encNw nw), .str c, .str d]) (g5) rfl ?_ ?_
           · simp -implicitDefEqProofs only [SD, SF, SL, e_nf, reduceCtorEq, implies_true, ↓reduceIte, Nat.reduceEqDiff, Nat.reduceAdd, Nat.reduceMul, Nat.reduceSub, Nat.reduceLeDiff, Nat.reduceLT, Int.reduceLT, Int.reduceLE, Int.reduceEq, Int.reduceToNat, Int.reduceAdd, Int.reduceSub, Int.reduceNeg, Int.reduceBEq, Int.reduceBNe, Nat.reduceBEq, Int.cast_ofNat_Int, decide_true, decide_false, ne_eq, eq_self_iff_true, beq_eq_false_iff_ne, bne_iff_ne, List.replicate, encNw, encPk, *]
             done)
        | ((with_reducible refine of_kSpec ?_)
           refine call_sub (ds' := [.agg (encNw nw), .agg (encNw nw)]) (spec14 nw nw) rfl ?_ ?_
           · simp -implicitDefEqProofs only [SD, SF, SL, e_nf, reduceCtorEq, implies_true, ↓reduceIte, Nat.reduceEqDiff, Nat.reduceAdd, Nat.reduceMul, Nat.reduceSub, Nat.reduceLeDiff, Nat.reduceLT, Int.reduceLT, Int.reduceLE, Int.reduceEq, Int.reduceToNat, Int.reduceAdd, Int.reduceSub, Int.reduceNeg, Int.reduceBEq, Int.reduceBNe, Nat.reduceBEq, Int.cast_ofNat_Int, decide_true, decide_false, ne_eq, eq_self_iff_true, beq_eq_false_iff_ne, bne_iff_ne, List.replicate, encNw, encPk, *]
             done)
        | ((with_reducible refine of_kSpec ?_)
           refine call_sub (ds' := [.agg (encNw ⟨nw.packets, xc⟩), .agg (encNw ⟨nw.packets, xc⟩)]) (spec14 ⟨nw.packets, xc⟩ ⟨nw.packets, xc⟩) rfl ?_ ?_
           · simp -implicitDefEqProofs only [SD, SF, SL, e_nf, reduceCtorEq, implies_true, ↓reduceIte, Nat.reduceEqDiff, Nat.reduceAdd, Nat.reduceMul, Nat.reduceSub, Nat.reduceLeDiff, Nat.reduceLT, Int.reduceLT, Int.reduceLE, Int.reduceEq, Int.reduceToNat, Int.reduceAdd, Int.reduceSub, Int.reduceNeg, Int.reduceBEq, Int.reduceBNe, Nat.reduceBEq, Int.cast_ofNat_Int, decide_true, decide_false, ne_eq, eq_self_iff_true, beq_eq_false_iff_ne, bne_iff_ne, List.replicate, encNw, encPk, *]
             done)
        | ((with_reducible refine of_kSpec ?_); refine call_fz (spec11) rfl ?_)
        | (with_reducible refine ite_in (fun _ => ?_) (fun _ => ?_))
        | (with_reducible refine ⟨fun _ => ?_, fun _ => ?_⟩)
        | (with_reducible refine And.intro ?_ ?_)
        | (with_reducible intro _)
        | (with_reducible exact is_in _)
        | (simp -implicitDefEqProofs only [SD, SF, SL, e_nf, reduceCtorEq, implies_true, ↓reduceIte, Nat.reduceEqDiff, Nat.reduceAdd, Nat.reduceMul, Nat.reduceSub, Nat.reduceLeDiff, Nat.reduceLT, Int.reduceLT, Int.reduceLE, Int.reduceEq, Int.reduceToNat, Int.reduceAdd, Int.reduceSub, Int.reduceNeg, Int.reduceBEq, Int.reduceBNe, Nat.reduceBEq, Int.cast_ofNat_Int, decide_true, decide_false, ne_eq, eq_self_iff_true, beq_eq_false_iff_ne, bne_iff_ne, List.replicate, encNw, encPk, beq_self_eq_true, bne_self_eq_false, *]))))
      all_goals (first | (simp_all; done) | (simp_all; omega) | grind)
    · obtain rfl := o4 hoth
      clear o4
      iterate 160 (all_goals (try (first
        | ((with_reducible refine of_kSpec ?_)
           refine call_sub (ds' := [.agg (encNw nw)]) (spec9 nw) rfl ?_ ?_
           · simp -implicitDefEqProofs only [SD, SF, SL, e_nf, reduceCtorEq, implies_true, ↓reduceIte, Nat.reduceEqDiff, Nat.reduceAdd, Nat.reduceMul, Nat.reduceSub, Nat.reduceLeDiff, Nat.reduceLT, Int.reduceLT, Int.reduceLE, Int.reduceEq, Int.reduceToNat, Int.reduceAdd, Int.reduceSub, Int.reduceNeg, Int.reduceBEq, Int.reduceBNe, Nat.reduceBEq, Int.cast_ofNat_Int, decide_true, decide_false, ne_eq, eq_self_iff_true, beq_eq_false_iff_ne, bne_iff_ne, List.replicate, encNw, encPk, *]
             done)
        | ((with_reducible refine of_kSpec ?_)
           refine call_sub (ds' := [.agg (encNw nw), .str a, .str b, .bool true]) (h1) rfl ?_ ?_
           · simp -implicitDefEqProofs only [SD, SF, SL, e_nf, reduceCtorEq, implies_true, ↓reduceIte, Nat.reduceEqDiff, Nat.reduceAdd, Nat.reduceMul, Nat.reduceSub, Nat.reduceLeDiff, Nat.reduceLT, Int.reduceLT, Int.reduceLE, Int.reduceEq, Int.reduceToNat, Int.reduceAdd, Int.reduceSub, Int.reduceNeg, Int.reduceBEq, Int.reduceBNe, Nat.reduceBEq, Int.cast_ofNat_Int, decide_true, decide_false, ne_eq, eq_self_iff_true, beq_eq_false_iff_ne, bne_iff_ne, List.replicate, encNw, encPk, *]
             done)
        | ((with_reducible refine of_kSpec ?_)
           refine call_sub (ds' := [.agg (encNw ⟨nw.packets, xc⟩), .str a, .str b, .bool true]) (h2) rfl ?_ ?_
           · simp -implicitDefEqProofs only [SD, SF, SL, e_nf, reduceCtorEq, implies_true, ↓reduceIte, Nat.reduceEqDiff, Nat.reduceAdd, Nat.reduceMul, Nat.reduceSub, Nat.reduceLeDiff, Nat.reduceLT, Int.reduceLT, Int.reduceLE, Int.reduceEq, Int.reduceToNat, Int.reduceAdd, Int.reduceSub, Int.reduceNeg, Int.reduceBEq, Int.reduceBNe, Nat.reduceBEq, Int.cast_ofNat_Int, decide_true, decide_false, ne_eq, eq_self_iff_true, beq_eq_false_iff_ne, bne_iff_ne, List.replicate, encNw, encPk, *]
             done)
        | ((with_reducible refine of_kSpec ?_)
           refine call_sub (ds' := [.agg (encNw ⟨nw.packets, xc⟩), .str a, .str b]) (g1) rfl ?_ ?_
           · simp -implicitDefEqProofs only [SD, SF, SL, e_nf, reduceCtorEq, implies_true, ↓reduceIte, Nat.reduceEqDiff, Nat.reduceAdd, Nat.reduceMul, Nat.reduceSub, Nat.reduceLeDiff, Nat.reduceLT, Int.reduceLT, Int.reduceLE, Int.reduceEq, Int.reduceToNat, Int.reduceAdd, Int.reduceSub, Int.reduceNeg, Int.reduceBEq, Int.reduceBNe, Nat.reduceBEq, Int.cast_ofNat_Int, decide_true, decide_false, ne_eq, eq_self_iff_true, beq_eq_false_iff_ne, bne_iff_ne, List.replicate, encNw, encPk, *]
             done)
        | ((with_reducible refine of_kSpec ?_)
           refine call_sub (ds' := [.agg (encNw ⟨nw.packets, xc⟩), .str b, .str a]) (g2) rfl ?_ ?_
           · simp -implicitDefEqProofs only [SD, SF, SL, e_nf, reduceCtorEq, implies_true, ↓reduceIte, Nat.reduceEqDiff, Nat.reduceAdd, Nat.reduceMul, Nat.reduceSub, Nat.reduceLeDiff, Nat.reduceLT, Int.reduceLT, Int.reduceLE, Int.reduceEq, Int.reduceToNat, Int.reduceAdd, Int.reduceSub, Int.reduceNeg, Int.reduceBEq, Int.reduceBNe, Nat.reduceBEq, Int.cast_ofNat_Int, decide_true, decide_false, ne_eq, eq_self_iff_true, beq_eq_false_iff_ne, bne_iff_ne, List.replicate, encNw, encPk, *]
             done)
        | ((with_reducible refine of_kSpec ?_)
           refine call_sub (ds' := [.agg (encNw ⟨nw.packets, xc⟩), .str c, .str d]) (g3) rfl ?_ ?_
           · simp -implicitDefEqProofs only [SD, SF, SL, e_nf, reduceCtorEq, implies_true, ↓reduceIte, Nat.reduceEqDiff, Nat.reduceAdd, Nat.reduceMul, Nat.reduceSub, Nat.reduceLeDiff, Nat.reduceLT, Int.reduceLT, Int.reduceLE, Int.reduceEq, Int.reduceToNat, Int.reduceAdd, Int.reduceSub, Int.reduceNeg, Int.reduceBEq, Int.reduceBNe, Nat.reduceBEq, Int.cast_ofNat_Int, decide_true, decide_false, ne_eq, eq_self_iff_true, beq_eq_false_iff_ne, bne_iff_ne, List.replicate, encNw, encPk, *]
             done)
        | ((with_reducible refine of_kSpec ?_)
           refine call_sub (ds' := [.agg (encNw ⟨nw.packets, xc⟩), .str d, .str c]) (g4) rfl ?_ ?_
           · simp -implicitDefEqProofs only [SD, SF, SL, e_nf, reduceCtorEq, implies_true, ↓reduceIte, Nat.reduceEqDiff, Nat.reduceAdd, Nat.reduceMul, Nat.reduceSub, Nat.reduceLeDiff, Nat.reduceLT, Int.reduceLT, Int.reduceLE, Int.reduceEq, Int.reduceToNat, Int.reduceAdd, Int.reduceSub, Int.reduceNeg, Int.reduceBEq, Int.reduceBNe, Nat.reduceBEq, Int.cast_ofNat_Int, decide_true, decide_false, ne_eq, eq_self_iff_true, beq_eq_false_iff_ne, bne_iff_ne, List.replicate, encNw, encPk, *]
             done)
        | ((with_reducible refine of_kSpec ?_)
           refine call_sub (ds' := [.agg (encNw nw), .str c, .str d]) (g5) rfl ?_ ?_
           · simp -implicitDefEqProofs only [SD, SF, SL, e_nf, reduceCtorEq, implies_true, ↓reduceIte, Nat.reduceEqDiff, Nat.reduceAdd, Nat.reduceMul, Nat.reduceSub, Nat.reduceLeDiff, Nat.reduceLT, Int.reduceLT, Int.reduceLE, Int.reduceEq, Int.reduceToNat, Int.reduceAdd, Int.reduceSub, Int.reduceNeg, Int.reduceBEq, Int.reduceBNe, Nat.reduceBEq, Int.cast_ofNat_Int, decide_true, decide_false, ne_eq, eq_self_iff_true, beq_eq_false_iff_ne, bne_iff_ne, List.replicate, encNw, encPk, *]
             done)
        | ((with_reducible refine of_kSpec ?_)
           refine call_sub (ds' := [.agg (encNw nw), .agg (encNw nw)]) (spec14 nw nw) rfl ?_ ?_
           · simp -implicitDefEqProofs only [SD, SF, SL, e_nf, reduceCtorEq, implies_true, ↓reduceIte, Nat.reduceEqDiff, Nat.reduceAdd, Nat.reduceMul, Nat.reduceSub, Nat.reduceLeDiff, Nat.reduceLT, Int.reduceLT, Int.reduceLE, Int.reduceEq, Int.reduceToNat, Int.reduceAdd, Int.reduceSub, Int.reduceNeg, Int.reduceBEq, Int.reduceBNe, Nat.reduceBEq, Int.cast_ofNat_Int, decide_true, decide_false, ne_eq, eq_self_iff_true, beq_eq_false_iff_ne, bne_iff_ne, List.replicate, encNw, encPk, *]
             done)
        | ((with_reducible refine of_kSpec ?_)
           refine call_sub (ds' := [.agg (encNw ⟨nw.packets, xc⟩), .agg (encNw ⟨nw.packets, xc⟩)]) (spec14 ⟨nw.packets, xc⟩ ⟨nw.packets, xc⟩) rfl ?_ ?_
           · simp -implicitDefEqProofs only [SD, SF, SL, e_nf, reduceCtorEq, implies_true, ↓reduceIte, Nat.reduceEqDiff, Nat.reduceAdd, Nat.reduceMul, Nat.reduceSub, Nat.reduceLeDiff, Nat.reduceLT, Int.reduceLT, Int.reduceLE, Int.reduceEq, Int.reduceToNat, Int.reduceAdd, Int.reduceSub, Int.reduceNeg, Int.reduceBEq, Int.reduceBNe, Nat.reduceBEq, Int.cast_ofNat_Int, decide_true, decide_false, ne_eq, eq_self_iff_true, beq_eq_false_iff_ne, bne_iff_ne, List.replicate, encNw, encPk, *]
             done)
        | ((with_reducible refine of_kSpec ?_); refine call_fz (spec11) rfl ?_)
        | (with_reducible refine ite_in (fun _ => ?_) (fun _ => ?_))
        | (with_reducible refine ⟨fun _ => ?_, fun _ => ?_⟩)
        | (with_reducible refine And.intro ?_ ?_)
        | (with_reducible intro _)
        | (with_reducible exact is_in _)
        | (simp -implicitDefEqProofs only [SD, SF, SL, e_nf, reduceCtorEq, implies_true, ↓reduceIte, Nat.reduceEqDiff, Nat.reduceAdd, Nat.reduceMul, Nat.reduceSub, Nat.reduceLeDiff, Nat.reduceLT, Int.reduceLT, Int.reduceLE, Int.reduceEq, Int.reduceToNat, Int.reduceAdd, Int.reduceSub, Int.reduceNeg, Int.reduceBEq, Int.reduceBNe, Nat.reduceBEq, Int.cast_ofNat_Int, decide_true, decide_false, ne_eq, eq_self_iff_true, beq_eq_false_iff_ne, bne_iff_ne, List.replicate, encNw, encPk, beq_self_eq_true, bne_self_eq_false, *]))))
      all_goals (first | (simp_all; done) | (simp_all; omega) | grind)


end Go.Proofs.Ytklbfafdioeehaa.E
