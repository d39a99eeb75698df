/-
  NtR: walks of functions of the program at data level.
-/
import Derived.Test.YtklbfafdioeehaaProg
import Derived.Test.YtklbfafdioeehaaEngZ
import Derived.Test.YtklbfafdioeehaaNtO
import Derived.KernelRfl
set_option linter.unusedVariables false
set_option linter.unusedSimpArgs false
namespace Go.Proofs.Ytklbfafdioeehaa.E
open Go
set_option maxHeartbeats 4000000
set_option maxRecDepth 100000
set_option linter.unusedSimpArgs false
set_option linter.unusedVariables false
attribute [local congr] c_wp c_ops c_op c_opS c_run c_runS c_dt c_seq c_blk c_loop c_S c_put c_bind c_mv c_pick c_nt c_ng c_bin c_binI c_binS c_beq c_B c_eqa c_hd c_cells c_blkK c_box c_vec c_mp c_nck c_mks c_appn c_mkm c_mput c_mlk c_mrm c_take c_ld c_ldF c_cellsK c_st c_fld c_fldv c_ix c_ixp c_ixv c_ixs c_sub c_subs c_len c_lens c_src c_dst c_ow c_app c_ext c_mm c_conv c_str c_isn c_fill c_rows c_boxo c_frz c_frzO c_frzA c_frzV c_spec c_specO c_opsP c_opP c_runP c_specP c_Z c_qretP c_fz c_fn c_gv c_cond c_res1 c_resL c_ret c_qret c_ite c_unr c_nx c_bk c_cut c_is
attribute [local irreducible] dwp

theorem idx_last (n : Nat) : idxR (n + 1) (-1) = n := by
  unfold idxR
  have h : (-1 : Int).tmod ((n + 1 : Nat) : Int) = if n = 0 then 0 else -1 := by
    by_cases hn : n = 0
    · subst hn; rfl
    · rw [if_neg hn, Int.neg_tmod, Int.tmod_eq_of_lt (by omega) (by omega)]
  rw [h]
  by_cases hn : n = 0
  · subst hn; rfl
  · rw [if_neg hn, if_pos (by omega)]
    omega
theorem next_last (l : List Pk) (p : Pk) (cs : List Lk) : nextR ⟨l ++ [p], cs⟩ (-1) = ((⟨l, cs⟩, p), true) ∧ dropR ⟨l ++ [p], cs⟩ (-1) = ⟨l, cs⟩ := by
  have h0 : ¬ (l ++ [p]).length = 0 := by simp
  have hi : idxR (l ++ [p]).length (-1) = l.length := by rw [List.length_append]; exact idx_last l.length
  have hd : dropR ⟨l ++ [p], cs⟩ (-1) = ⟨l, cs⟩ := by
    unfold dropR
    dsimp only
    rw [if_neg h0, hi, List.take_left' rfl, List.drop_eq_nil_of_le (by simp)]
    simp
  refine ⟨?_, hd⟩
  unfold nextR
  dsimp only
  rw [if_neg h0, hd, hi]
  simp [List.getD]
theorem back_facts (X : Ntw) (i : Int) (h0 : ¬ X.packets.length = 0) : ∃ D f, nextR X i = ((D, f), true) ∧ dropR X i = D ∧ D.packets.length + 1 = X.packets.length ∧ (¬ 1000 ≤ X.packets.length → copyR X i = ⟨X.packets ++ [f], X.cuts⟩) ∧ (1000 ≤ X.packets.length → copyR X i = X) := by
  refine ⟨dropR X i, X.packets.getD (idxR X.packets.length i) zPk, ?_, rfl, ?_, ?_, ?_⟩
  · unfold nextR
    rw [if_neg h0]
  · have hk : idxR X.packets.length i < X.packets.length := by
      have h1 : (0 : Int) < X.packets.length := by omega
      have h2 : i.tmod X.packets.length < X.packets.length := Int.tmod_lt_of_pos _ h1
      unfold idxR
      split <;> omega
    unfold dropR
    rw [if_neg h0]
    simp only [List.length_append, List.length_take, List.length_drop]
    omega
  · intro h
    unfold copyR
    rw [if_neg (by omega)]
  · intro h
    unfold copyR
    rw [if_pos (by omega)]
theorem send_facts (nw : Ntw) (p : Pk) : (sendR nw p = (e0Nw, 30) ∧ openB nw.cuts p.frm p.dest = false) ∨ (sendR nw p = (e0Nw, 29) ∧ openB nw.cuts p.frm p.dest = true ∧ 1000 ≤ nw.packets.length) ∨ (sendR nw p = (⟨nw.packets ++ [p], nw.cuts⟩, 0) ∧ nw.packets.length < 1000) := by
  unfold sendR
  cases h : openB nw.cuts p.frm p.dest
  · exact .inl ⟨by simp, rfl⟩
  · by_cases h2 : 1000 ≤ nw.packets.length
    · exact .inr (.inl ⟨by simp [h2], rfl, h2⟩)
    · exact .inr (.inr ⟨by simp [h2], by omega⟩)
def ac8 : AC := (.seq (.ops [⟨(some 3), none, (.box (.t 0))⟩, ⟨(some 4), none, (.box (.t 1))⟩, ⟨(some 6), none, (.mv (.c (.bool false)))⟩]) (.seq (.seq (.ops [⟨(some 16), none, (.ld true 2 (.t 3))⟩, ⟨(some 17), none, (.call false 9 [(.t 16)])⟩, ⟨(some 18), none, (.mv (.t 17))⟩, ⟨(some 19), (some (18, false)), (.ld true 10 (.t 4))⟩, ⟨(some 20), (some (18, false)), (.call false 10 [(.t 19)])⟩, ⟨(some 21), none, (.pick (.t 18) (.c (.bool true)) (.t 20))⟩]) (.cond (.t 21) (.seq (.ops [⟨(some 22), none, (.call false 11 [])⟩, ⟨(some 6), none, (.mv (.t 22))⟩]) .ret) .skip)) (.seq (.ops [⟨(some 24), none, (.ld true 2 (.t 3))⟩, ⟨(some 25), none, (.ld true 10 (.t 4))⟩, ⟨(some 26), none, (.call false 12 [(.t 24), (.t 25)])⟩, ⟨(some 23), none, (.mv (.t 26))⟩, ⟨(some 27), none, (.ext (.t 23) 0)⟩, ⟨(some 28), none, (.ext (.t 23) 1)⟩, ⟨(some 7), none, (.alloc [.e0, .e0])⟩, ⟨none, none, (.sto 2 (.t 7) (.t 27))⟩, ⟨(some 8), none, (.mv (.t 28))⟩]) (.seq (.seq (.ops [⟨(some 29), none, (.mv (.t 8))⟩, ⟨(some 30), none, (.bin .neq (.t 29) (.c (.int .i64 0)))⟩]) (.cond (.t 30) (.seq (.ops [⟨(some 31), none, (.fld 0 (.t 7))⟩, ⟨(some 32), none, (.ld false 1 (.t 31))⟩, ⟨(some 33), none, (.len (.t 32))⟩, ⟨(some 34), none, (.bin .eql (.t 33) (.c (.int .i64 0)))⟩, ⟨(some 35), none, (.mv (.t 34))⟩, ⟨(some 36), (some (35, true)), (.fld 1 (.t 7))⟩, ⟨(some 37), (some (35, true)), (.ld false 1 (.t 36))⟩, ⟨(some 38), (some (35, true)), (.len (.t 37))⟩, ⟨(some 39), (some (35, true)), (.bin .eql (.t 38) (.c (.int .i64 0)))⟩, ⟨(some 40), none, (.pick (.t 35) (.t 39) (.c (.bool false)))⟩, ⟨(some 41), none, (.mv (.t 40))⟩, ⟨(some 42), (some (41, true)), (.mv (.t 8))⟩, ⟨(some 43), (some (41, true)), (.bin .eql (.t 42) (.c (.int .i64 30)))⟩, ⟨(some 44), (some (41, true)), (.ld true 2 (.t 3))⟩, ⟨(some 45), (some (41, true)), (.fld 0 (.t 4))⟩, ⟨(some 46), (some (41, true)), (.ld false 1 (.t 45))⟩, ⟨(some 47), (some (41, true)), (.fld 1 (.t 4))⟩, ⟨(some 48), (some (41, true)), (.ld false 1 (.t 47))⟩, ⟨(some 49), (some (41, true)), (.call false 17 [(.t 44), (.t 46), (.t 48)])⟩, ⟨(some 50), (some (41, true)), (.nt (.t 49))⟩, ⟨(some 51), (some (41, true)), (.beq false (.t 43) (.t 50))⟩, ⟨(some 52), none, (.pick (.t 41) (.t 51) (.c (.bool false)))⟩, ⟨(some 53), none, (.mv (.t 52))⟩, ⟨(some 54), (some (53, true)), (.mv (.t 8))⟩, ⟨(some 55), (some (53, true)), (.bin .eql (.t 54) (.c (.int .i64 30)))⟩, ⟨(some 56), (some (53, true)), (.mv (.t 55))⟩, ⟨(some 57), (some (56, false)), (.fld 0 (.t 3))⟩, ⟨(some 58), (some (56, false)), (.ld false 1 (.t 57))⟩, ⟨(some 59), (some (56, false)), (.len (.t 58))⟩, ⟨(some 60), (some (56, false)), (.bin .geq (.t 59) (.c (.int .i64 1000)))⟩, ⟨(some 61), (some (53, true)), (.pick (.t 56) (.c (.bool true)) (.t 60))⟩, ⟨(some 62), none, (.pick (.t 53) (.t 61) (.c (.bool false)))⟩, ⟨(some 63), none, (.mv (.t 62))⟩, ⟨(some 64), (some (63, true)), (.call false 11 [])⟩, ⟨(some 65), none, (.pick (.t 63) (.t 64) (.c (.bool false)))⟩, ⟨(some 6), none, (.mv (.t 65))⟩]) .ret) .skip)) (.seq (.ops [⟨(some 67), none, (.ld true 2 (.t 7))⟩, ⟨(some 68), none, (.call false 19 [(.t 67), (.c (.int .i64 (-1)))])⟩, ⟨(some 66), none, (.mv (.t 68))⟩, ⟨(some 69), none, (.ext (.t 66) 0)⟩, ⟨(some 70), none, (.ext (.t 66) 1)⟩, ⟨(some 71), none, (.ext (.t 66) 2)⟩, ⟨(some 9), none, (.alloc [.e0, .e0])⟩, ⟨(some 10), none, (.alloc [(.str []), (.str []), (.int .i64 0), (.int .i64 0), (.str []), .e0, .e0, .e0, (.str []), (.int .i64 0)])⟩, ⟨none, none, (.sto 2 (.t 9) (.t 69))⟩, ⟨none, none, (.sto 10 (.t 10) (.t 70))⟩, ⟨(some 11), none, (.mv (.t 71))⟩]) (.seq (.seq (.ops [⟨(some 72), none, (.mv (.t 11))⟩, ⟨(some 73), none, (.nt (.t 72))⟩, ⟨(some 74), none, (.mv (.t 73))⟩, ⟨(some 75), (some (74, false)), (.ld true 10 (.t 4))⟩, ⟨(some 76), (some (74, false)), (.ld true 10 (.t 10))⟩, ⟨(some 77), (some (74, false)), (.call false 21 [(.t 75), (.t 76)])⟩, ⟨(some 78), (some (74, false)), (.nt (.t 77))⟩, ⟨(some 79), none, (.pick (.t 74) (.c (.bool true)) (.t 78))⟩, ⟨(some 80), none, (.mv (.t 79))⟩, ⟨(some 81), (some (80, false)), (.ld true 2 (.t 9))⟩, ⟨(some 82), (some (80, false)), (.ld true 2 (.t 3))⟩, ⟨(some 83), (some (80, false)), (.call false 14 [(.t 81), (.t 82)])⟩, ⟨(some 84), (some (80, false)), (.nt (.t 83))⟩, ⟨(some 85), none, (.pick (.t 80) (.c (.bool true)) (.t 84))⟩]) (.cond (.t 85) (.seq (.ops [⟨(some 6), none, (.mv (.c (.bool false)))⟩]) .ret) .skip)) (.seq (.ops [⟨(some 87), none, (.ld true 2 (.t 7))⟩, ⟨(some 88), none, (.mv (.t 2))⟩, ⟨(some 89), none, (.call false 19 [(.t 87), (.t 88)])⟩, ⟨(some 86), none, (.mv (.t 89))⟩, ⟨(some 90), none, (.ext (.t 86) 0)⟩, ⟨(some 91), none, (.ext (.t 86) 1)⟩, ⟨(some 92), none, (.ext (.t 86) 2)⟩, ⟨(some 12), none, (.alloc [.e0, .e0])⟩, ⟨(some 13), none, (.alloc [(.str []), (.str []), (.int .i64 0), (.int .i64 0), (.str []), .e0, .e0, .e0, (.str []), (.int .i64 0)])⟩, ⟨none, none, (.sto 2 (.t 12) (.t 90))⟩, ⟨none, none, (.sto 10 (.t 13) (.t 91))⟩, ⟨(some 11), none, (.mv (.t 92))⟩]) (.seq (.seq (.fz 12 (.fz 7 (.draw (.q false ⟨(some 93), none, (.mv (.t 11))⟩ (.q false ⟨(some 94), none, (.nt (.t 93))⟩ (.q false ⟨(some 95), none, (.mv (.t 94))⟩ (.q false ⟨(some 96), (some (95, false)), (.ld true 2 (.t 12))⟩ (.q false ⟨(some 97), (some (95, false)), (.ld true 2 (.t 7))⟩ (.q false ⟨(some 98), (some (95, false)), (.mv (.t 2))⟩ (.op ⟨(some 99), (some (95, false)), (.call false 22 [(.t 97), (.t 98)])⟩ (.op ⟨(some 100), (some (95, false)), (.call false 14 [(.t 96), (.t 99)])⟩ (.q false ⟨(some 101), (some (95, false)), (.nt (.t 100))⟩ (.q false ⟨(some 102), none, (.pick (.t 95) (.c (.bool true)) (.t 101))⟩ (.q false ⟨(some 103), none, (.mv (.t 102))⟩ (.q true ⟨(some 104), (some (103, false)), (.fld 0 (.t 12))⟩ (.q true ⟨(some 105), (some (103, false)), (.ld false 1 (.t 104))⟩ (.q true ⟨(some 107), (some (103, false)), (.fld 0 (.t 7))⟩ (.q true ⟨(some 108), (some (103, false)), (.ld false 1 (.t 107))⟩ (.alt (.op ⟨(some 106), (some (103, false)), (.len (.t 105))⟩ (.op ⟨(some 109), (some (103, false)), (.len (.t 108))⟩ (.q false ⟨(some 110), (some (103, false)), (.bin .sub (.t 109) (.c (.int .i64 1)))⟩ (.q false ⟨(some 111), (some (103, false)), (.bin .neq (.t 106) (.t 110))⟩ (.q false ⟨(some 112), none, (.pick (.t 103) (.c (.bool true)) (.t 111))⟩ .nil))))) (.op ⟨(some 109), (some (103, false)), (.len (.t 108))⟩ (.q true ⟨(some 110), (some (103, false)), (.bin .sub (.t 109) (.c (.int .i64 1)))⟩ (.op ⟨(some 106), (some (103, false)), (.len (.t 105))⟩ (.q false ⟨(some 111), (some (103, false)), (.bin .neq (.t 106) (.t 110))⟩ (.q false ⟨(some 112), none, (.pick (.t 103) (.c (.bool true)) (.t 111))⟩ .nil)))))))))))))))))))))))) (.cond (.t 112) (.seq (.ops [⟨(some 6), none, (.mv (.c (.bool false)))⟩]) .ret) .skip)) (.seq (.seq (.ops [⟨(some 113), none, (.fld 0 (.t 7))⟩, ⟨(some 114), none, (.ld false 1 (.t 113))⟩, ⟨(some 115), none, (.len (.t 114))⟩, ⟨(some 116), none, (.bin .geq (.t 115) (.c (.int .i64 1000)))⟩]) (.cond (.t 116) (.seq (.draw (.q false ⟨(some 117), none, (.ld true 2 (.t 7))⟩ (.q false ⟨(some 118), none, (.mv (.t 2))⟩ (.q false ⟨(some 120), none, (.ld true 2 (.t 7))⟩ (.op ⟨(some 119), none, (.call false 24 [(.t 117), (.t 118)])⟩ (.op ⟨(some 121), none, (.call false 14 [(.t 119), (.t 120)])⟩ (.q false ⟨(some 122), none, (.mv (.t 121))⟩ (.op ⟨(some 123), (some (122, true)), (.call false 11 [])⟩ (.q false ⟨(some 124), none, (.pick (.t 122) (.t 123) (.c (.bool false)))⟩ (.q false ⟨(some 6), none, (.mv (.t 124))⟩ .nil)))))))))) .ret) .skip)) (.seq (.ops [⟨(some 126), none, (.ld true 2 (.t 7))⟩, ⟨(some 127), none, (.mv (.t 2))⟩, ⟨(some 128), none, (.call false 24 [(.t 126), (.t 127)])⟩, ⟨(some 129), none, (.call false 19 [(.t 128), (.c (.int .i64 (-1)))])⟩, ⟨(some 125), none, (.mv (.t 129))⟩, ⟨(some 130), none, (.ext (.t 125) 0)⟩, ⟨(some 131), none, (.ext (.t 125) 1)⟩, ⟨(some 132), none, (.ext (.t 125) 2)⟩, ⟨(some 14), none, (.alloc [.e0, .e0])⟩, ⟨(some 15), none, (.alloc [(.str []), (.str []), (.int .i64 0), (.int .i64 0), (.str []), .e0, .e0, .e0, (.str []), (.int .i64 0)])⟩, ⟨none, none, (.sto 2 (.t 14) (.t 130))⟩, ⟨none, none, (.sto 10 (.t 15) (.t 131))⟩, ⟨(some 11), none, (.mv (.t 132))⟩]) (.seq (.draw (.q false ⟨(some 133), none, (.mv (.t 11))⟩ (.q false ⟨(some 134), none, (.mv (.t 133))⟩ (.q false ⟨(some 135), (some (134, true)), (.ld true 10 (.t 13))⟩ (.q false ⟨(some 136), (some (134, true)), (.ld true 10 (.t 15))⟩ (.op ⟨(some 137), (some (134, true)), (.call false 21 [(.t 135), (.t 136)])⟩ (.q false ⟨(some 138), none, (.pick (.t 134) (.t 137) (.c (.bool false)))⟩ (.q false ⟨(some 139), none, (.mv (.t 138))⟩ (.q false ⟨(some 140), (some (139, true)), (.ld true 2 (.t 7))⟩ (.q false ⟨(some 141), (some (139, true)), (.mv (.t 2))⟩ (.q false ⟨(some 144), (some (139, true)), (.ld true 2 (.t 7))⟩ (.op ⟨(some 142), (some (139, true)), (.call false 24 [(.t 140), (.t 141)])⟩ (.op ⟨(some 143), (some (139, true)), (.call false 22 [(.t 142), (.c (.int .i64 (-1)))])⟩ (.op ⟨(some 145), (some (139, true)), (.call false 14 [(.t 143), (.t 144)])⟩ (.q false ⟨(some 146), none, (.pick (.t 139) (.t 145) (.c (.bool false)))⟩ (.q false ⟨(some 147), none, (.mv (.t 146))⟩ (.op ⟨(some 148), (some (147, true)), (.call false 11 [])⟩ (.q false ⟨(some 149), none, (.pick (.t 147) (.t 148) (.c (.bool false)))⟩ (.q false ⟨(some 6), none, (.mv (.t 149))⟩ .nil))))))))))))))))))) .ret)))))))))))
theorem tr8 : Try.f8.body.bind (trCode Try.prog) = some (strip ac8) := by kernel_rfl
theorem spec8 (nw : Ntw) (p : Pk) (i : Int) : Spec Try.prog 8 [.fz (.agg (encNw nw)), .fz (.agg (encPk p)), .fz (.int .i64 i)] (.fz (.bool true)) := by
  refine spec_at (n := 147) (ars := [(.t 6)]) (ac := ac8) Try.func8 (by kernel_rfl) (by kernel_rfl) tr8 (by kernel_rfl) ?_
  unfold ac8
  by_cases hg : greatN nw = true
  · skip
    iterate 40 (all_goals (try (first
      | ((with_reducible refine of_kSpec ?_)
         refine call_sub (ds' := [.agg (encNw nw)]) (spec9 nw) rfl ?_ ?_
         · simp -implicitDefEqProofs only [SD, SF, SL, e_nf, reduceCtorEq, implies_true, ↓reduceIte, Nat.reduceEqDiff, Nat.reduceAdd, Nat.reduceMul, Nat.reduceSub, Nat.reduceLeDiff, Nat.reduceLT, Int.reduceLT, Int.reduceLE, Int.reduceEq, Int.reduceToNat, Int.reduceAdd, Int.reduceSub, Int.reduceNeg, Int.reduceBEq, Int.reduceBNe, Nat.reduceBEq, Int.cast_ofNat_Int, decide_true, decide_false, ne_eq, eq_self_iff_true, beq_eq_false_iff_ne, bne_iff_ne, List.replicate, encNw, encPk, *]
           done)
      | ((with_reducible refine of_kSpec ?_); refine call_fz (spec11) rfl ?_)
      | (with_reducible refine ite_in (fun _ => ?_) (fun _ => ?_))
      | (with_reducible refine ⟨fun _ => ?_, fun _ => ?_⟩)
      | (with_reducible refine And.intro ?_ ?_)
      | (with_reducible intro _)
      | (with_reducible exact is_in _)
      | (simp -implicitDefEqProofs only [SD, SF, SL, e_nf, reduceCtorEq, implies_true, ↓reduceIte, Nat.reduceEqDiff, Nat.reduceAdd, Nat.reduceMul, Nat.reduceSub, Nat.reduceLeDiff, Nat.reduceLT, Int.reduceLT, Int.reduceLE, Int.reduceEq, Int.reduceToNat, Int.reduceAdd, Int.reduceSub, Int.reduceNeg, Int.reduceBEq, Int.reduceBNe, Nat.reduceBEq, Int.cast_ofNat_Int, decide_true, decide_false, ne_eq, eq_self_iff_true, beq_eq_false_iff_ne, bne_iff_ne, List.replicate, encNw, encPk, *]))))
    all_goals (first | (simp_all; done) | (simp_all; omega))
  obtain ⟨hz1, hz2⟩ := greatN_sz hg
  by_cases hp : longP p = true
  · skip
    iterate 40 (all_goals (try (first
      | ((with_reducible refine of_kSpec ?_)
         refine call_sub (ds' := [.agg (encNw nw)]) (spec9 nw) rfl ?_ ?_
         · simp -implicitDefEqProofs only [SD, SF, SL, e_nf, reduceCtorEq, implies_true, ↓reduceIte, Nat.reduceEqDiff, Nat.reduceAdd, Nat.reduceMul, Nat.reduceSub, Nat.reduceLeDiff, Nat.reduceLT, Int.reduceLT, Int.reduceLE, Int.reduceEq, Int.reduceToNat, Int.reduceAdd, Int.reduceSub, Int.reduceNeg, Int.reduceBEq, Int.reduceBNe, Nat.reduceBEq, Int.cast_ofNat_Int, decide_true, decide_false, ne_eq, eq_self_iff_true, beq_eq_false_iff_ne, bne_iff_ne, List.replicate, encNw, encPk, *]
           done)
      | ((with_reducible refine of_kSpec ?_)
         refine call_sub (ds' := [.agg (encPk p)]) (spec10 p) rfl ?_ ?_
         · simp -implicitDefEqProofs only [SD, SF, SL, e_nf, reduceCtorEq, implies_true, ↓reduceIte, Nat.reduceEqDiff, Nat.reduceAdd, Nat.reduceMul, Nat.reduceSub, Nat.reduceLeDiff, Nat.reduceLT, Int.reduceLT, Int.reduceLE, Int.reduceEq, Int.reduceToNat, Int.reduceAdd, Int.reduceSub, Int.reduceNeg, Int.reduceBEq, Int.reduceBNe, Nat.reduceBEq, Int.cast_ofNat_Int, decide_true, decide_false, ne_eq, eq_self_iff_true, beq_eq_false_iff_ne, bne_iff_ne, List.replicate, encNw, encPk, *]
           done)
      | ((with_reducible refine of_kSpec ?_); refine call_fz (spec11) rfl ?_)
      | (with_reducible refine ite_in (fun _ => ?_) (fun _ => ?_))
      | (with_reducible refine ⟨fun _ => ?_, fun _ => ?_⟩)
      | (with_reducible refine And.intro ?_ ?_)
      | (with_reducible intro _)
      | (with_reducible exact is_in _)
      | (simp -implicitDefEqProofs only [SD, SF, SL, e_nf, reduceCtorEq, implies_true, ↓reduceIte, Nat.reduceEqDiff, Nat.reduceAdd, Nat.reduceMul, Nat.reduceSub, Nat.reduceLeDiff, Nat.reduceLT, Int.reduceLT, Int.reduceLE, Int.reduceEq, Int.reduceToNat, Int.reduceAdd, Int.reduceSub, Int.reduceNeg, Int.reduceBEq, Int.reduceBNe, Nat.reduceBEq, Int.cast_ofNat_Int, decide_true, decide_false, ne_eq, eq_self_iff_true, beq_eq_false_iff_ne, bne_iff_ne, List.replicate, encNw, encPk, *]))))
    all_goals (first | (simp_all; done) | (simp_all; omega))
  have h1 := spec12 nw p
  have g1 := spec17 nw p.frm p.dest
  rcases send_facts nw p with ⟨hs, ho⟩ | ⟨hs, ho, hk⟩ | ⟨hs, hk⟩
  · rw [hs] at h1
    rw [ho] at g1
    clear hs ho
    iterate 80 (all_goals (try (first
      | ((with_reducible refine of_kSpec ?_)
         refine call_sub (ds' := [.agg (encNw nw)]) (spec9 nw) rfl ?_ ?_
         · simp -implicitDefEqProofs only [SD, SF, SL, e_nf, reduceCtorEq, implies_true, ↓reduceIte, Nat.reduceEqDiff, Nat.reduceAdd, Nat.reduceMul, Nat.reduceSub, Nat.reduceLeDiff, Nat.reduceLT, Int.reduceLT, Int.reduceLE, Int.reduceEq, Int.reduceToNat, Int.reduceAdd, Int.reduceSub, Int.reduceNeg, Int.reduceBEq, Int.reduceBNe, Nat.reduceBEq, Int.cast_ofNat_Int, decide_true, decide_false, ne_eq, eq_self_iff_true, beq_eq_false_iff_ne, bne_iff_ne, List.replicate, encNw, encPk, *]
           done)
      | ((with_reducible refine of_kSpec ?_)
         refine call_sub (ds' := [.agg (encPk p)]) (spec10 p) rfl ?_ ?_
         · simp -implicitDefEqProofs only [SD, SF, SL, e_nf, reduceCtorEq, implies_true, ↓reduceIte, Nat.reduceEqDiff, Nat.reduceAdd, Nat.reduceMul, Nat.reduceSub, Nat.reduceLeDiff, Nat.reduceLT, Int.reduceLT, Int.reduceLE, Int.reduceEq, Int.reduceToNat, Int.reduceAdd, Int.reduceSub, Int.reduceNeg, Int.reduceBEq, Int.reduceBNe, Nat.reduceBEq, Int.cast_ofNat_Int, decide_true, decide_false, ne_eq, eq_self_iff_true, beq_eq_false_iff_ne, bne_iff_ne, List.replicate, encNw, encPk, *]
           done)
      | ((with_reducible refine of_kSpec ?_)
         refine call_sub (ds' := [.agg (encNw nw), .agg (encPk p)]) (h1) rfl ?_ ?_
         · simp -implicitDefEqProofs only [SD, SF, SL, e_nf, reduceCtorEq, implies_true, ↓reduceIte, Nat.reduceEqDiff, Nat.reduceAdd, Nat.reduceMul, Nat.reduceSub, Nat.reduceLeDiff, Nat.reduceLT, Int.reduceLT, Int.reduceLE, Int.reduceEq, Int.reduceToNat, Int.reduceAdd, Int.reduceSub, Int.reduceNeg, Int.reduceBEq, Int.reduceBNe, Nat.reduceBEq, Int.cast_ofNat_Int, decide_true, decide_false, ne_eq, eq_self_iff_true, beq_eq_false_iff_ne, bne_iff_ne, List.replicate, encNw, encPk, *]
           done)
      | ((with_reducible refine of_kSpec ?_)
         refine call_sub (ds' := [.agg (encNw nw), .str p.frm, .str p.dest]) (g1) rfl ?_ ?_
         · simp -implicitDefEqProofs only [SD, SF, SL, e_nf, reduceCtorEq, implies_true, ↓reduceIte, Nat.reduceEqDiff, Nat.reduceAdd, Nat.reduceMul, Nat.reduceSub, Nat.reduceLeDiff, Nat.reduceLT, Int.reduceLT, Int.reduceLE, Int.reduceEq, Int.reduceToNat, Int.reduceAdd, Int.reduceSub, Int.reduceNeg, Int.reduceBEq, Int.reduceBNe, Nat.reduceBEq, Int.cast_ofNat_Int, decide_true, decide_false, ne_eq, eq_self_iff_true, beq_eq_false_iff_ne, bne_iff_ne, List.replicate, encNw, encPk, *]
           done)
      | ((with_reducible refine of_kSpec ?_); refine call_fz (spec11) rfl ?_)
      | (with_reducible refine ite_in (fun _ => ?_) (fun _ => ?_))
      | (with_reducible refine ⟨fun _ => ?_, fun _ => ?_⟩)
      | (with_reducible refine And.intro ?_ ?_)
      | (with_reducible intro _)
      | (with_reducible exact is_in _)
      | (simp -implicitDefEqProofs only [SD, SF, SL, e_nf, reduceCtorEq, implies_true, ↓reduceIte, Nat.reduceEqDiff, Nat.reduceAdd, Nat.reduceMul, Nat.reduceSub, Nat.reduceLeDiff, Nat.reduceLT, Int.reduceLT, Int.reduceLE, Int.reduceEq, Int.reduceToNat, Int.reduceAdd, Int.reduceSub, Int.reduceNeg, Int.reduceBEq, Int.reduceBNe, Nat.reduceBEq, Int.cast_ofNat_Int, decide_true, decide_false, ne_eq, eq_self_iff_true, beq_eq_false_iff_ne, bne_iff_ne, List.replicate, encNw, encPk, beq_self_eq_true, bne_self_eq_false, e0Nw, *]))))
    all_goals (first | (simp_all; done) | (simp_all; omega))
  · rw [hs] at h1
    rw [ho] at g1
    clear hs ho
    iterate 80 (all_goals (try (first
      | ((with_reducible refine of_kSpec ?_)
         refine call_sub (ds' := [.agg (encNw nw)]) (spec9 nw) rfl ?_ ?_
         · simp -implicitDefEqProofs only [SD, SF, SL, e_nf, reduceCtorEq, implies_true, ↓reduceIte, Nat.reduceEqDiff, Nat.reduceAdd, Nat.reduceMul, Nat.reduceSub, Nat.reduceLeDiff, Nat.reduceLT, Int.reduceLT, Int.reduceLE, Int.reduceEq, Int.reduceToNat, Int.reduceAdd, Int.reduceSub, Int.reduceNeg, Int.reduceBEq, Int.reduceBNe, Nat.reduceBEq, Int.cast_ofNat_Int, decide_true, decide_false, ne_eq, eq_self_iff_true, beq_eq_false_iff_ne, bne_iff_ne, List.replicate, encNw, encPk, *]
           done)
      | ((with_reducible refine of_kSpec ?_)
         refine call_sub (ds' := [.agg (encPk p)]) (spec10 p) rfl ?_ ?_
         · simp -implicitDefEqProofs only [SD, SF, SL, e_nf, reduceCtorEq, implies_true, ↓reduceIte, Nat.reduceEqDiff, Nat.reduceAdd, Nat.reduceMul, Nat.reduceSub, Nat.reduceLeDiff, Nat.reduceLT, Int.reduceLT, Int.reduceLE, Int.reduceEq, Int.reduceToNat, Int.reduceAdd, Int.reduceSub, Int.reduceNeg, Int.reduceBEq, Int.reduceBNe, Nat.reduceBEq, Int.cast_ofNat_Int, decide_true, decide_false, ne_eq, eq_self_iff_true, beq_eq_false_iff_ne, bne_iff_ne, List.replicate, encNw, encPk, *]
           done)
      | ((with_reducible refine of_kSpec ?_)
         refine call_sub (ds' := [.agg (encNw nw), .agg (encPk p)]) (h1) rfl ?_ ?_
         · simp -implicitDefEqProofs only [SD, SF, SL, e_nf, reduceCtorEq, implies_true, ↓reduceIte, Nat.reduceEqDiff, Nat.reduceAdd, Nat.reduceMul, Nat.reduceSub, Nat.reduceLeDiff, Nat.reduceLT, Int.reduceLT, Int.reduceLE, Int.reduceEq, Int.reduceToNat, Int.reduceAdd, Int.reduceSub, Int.reduceNeg, Int.reduceBEq, Int.reduceBNe, Nat.reduceBEq, Int.cast_ofNat_Int, decide_true, decide_false, ne_eq, eq_self_iff_true, beq_eq_false_iff_ne, bne_iff_ne, List.replicate, encNw, encPk, *]
           done)
      | ((with_reducible refine of_kSpec ?_)
         refine call_sub (ds' := [.agg (encNw nw), .str p.frm, .str p.dest]) (g1) rfl ?_ ?_
         · simp -implicitDefEqProofs only [SD, SF, SL, e_nf, reduceCtorEq, implies_true, ↓reduceIte, Nat.reduceEqDiff, Nat.reduceAdd, Nat.reduceMul, Nat.reduceSub, Nat.reduceLeDiff, Nat.reduceLT, Int.reduceLT, Int.reduceLE, Int.reduceEq, Int.reduceToNat, Int.reduceAdd, Int.reduceSub, Int.reduceNeg, Int.reduceBEq, Int.reduceBNe, Nat.reduceBEq, Int.cast_ofNat_Int, decide_true, decide_false, ne_eq, eq_self_iff_true, beq_eq_false_iff_ne, bne_iff_ne, List.replicate, encNw, encPk, *]
           done)
      | ((with_reducible refine of_kSpec ?_); refine call_fz (spec11) rfl ?_)
      | (with_reducible refine ite_in (fun _ => ?_) (fun _ => ?_))
      | (with_reducible refine ⟨fun _ => ?_, fun _ => ?_⟩)
      | (with_reducible refine And.intro ?_ ?_)
      | (with_reducible intro _)
      | (with_reducible exact is_in _)
      | (simp -implicitDefEqProofs only [SD, SF, SL, e_nf, reduceCtorEq, implies_true, ↓reduceIte, Nat.reduceEqDiff, Nat.reduceAdd, Nat.reduceMul, Nat.reduceSub, Nat.reduceLeDiff, Nat.reduceLT, Int.reduceLT, Int.reduceLE, Int.reduceEq, Int.reduceToNat, Int.reduceAdd, Int.reduceSub, Int.reduceNeg, Int.reduceBEq, Int.reduceBNe, Nat.reduceBEq, Int.cast_ofNat_Int, decide_true, decide_false, ne_eq, eq_self_iff_true, beq_eq_false_iff_ne, bne_iff_ne, List.replicate, encNw, encPk, beq_self_eq_true, bne_self_eq_false, e0Nw, *]))))
    all_goals (first | (simp_all; done) | (simp_all; omega))
  · rw [hs] at h1
    obtain ⟨e1, e2⟩ := next_last nw.packets p nw.cuts
    have hXl : (nw.packets ++ [p]).length = nw.packets.length + 1 := by simp
    obtain ⟨X, hX⟩ : ∃ r, r = (⟨nw.packets ++ [p], nw.cuts⟩ : Ntw) := ⟨_, rfl⟩
    have hXl2 : X.packets.length = nw.packets.length + 1 := by rw [hX]; exact hXl
    rw [← hX] at h1 e1
    clear e2 hXl hs g1
    obtain ⟨D, f, e3, e4, e5, e6, e7⟩ := back_facts X i (by omega)
    have n1 := spec19 X (-1) (by omega)
    have n2 := spec19 X i (by omega)
    have d2 := spec22 X i (by omega)
    have cp := spec24 X i (by omega)
    rw [e1] at n1
    rw [e3] at n2
    rw [e4] at d2
    have hw : IntKind.i64.wrap ((X.packets.length : Int) - 1) = (D.packets.length : Int) := by
      rw [wrap_in (by omega) (by omega)]
      omega
    clear e1 e3 e4 hX
    by_cases hk2 : 1000 ≤ X.packets.length
    · rw [e7 hk2] at cp
      have hk3 : (1000 : Int) ≤ X.packets.length := by omega
      clear e6 e7
      iterate 160 (all_goals (try (first
        | ((with_reducible refine of_kSpec ?_)
           refine call_sub (ds' := [.agg (encNw nw)]) (spec9 nw) rfl ?_ ?_
           · simp -implicitDefEqProofs only [SD, SF, SL, e_nf, reduceCtorEq, implies_true, ↓reduceIte, Nat.reduceEqDiff, Nat.reduceAdd, Nat.reduceMul, Nat.reduceSub, Nat.reduceLeDiff, Nat.reduceLT, Int.reduceLT, Int.reduceLE, Int.reduceEq, Int.reduceToNat, Int.reduceAdd, Int.reduceSub, Int.reduceNeg, Int.reduceBEq, Int.reduceBNe, Nat.reduceBEq, Int.cast_ofNat_Int, decide_true, decide_false, ne_eq, eq_self_iff_true, beq_eq_false_iff_ne, bne_iff_ne, List.replicate, encNw, encPk, *]
             done)
        | ((with_reducible refine of_kSpec ?_)
           refine call_sub (ds' := [.agg (encPk p)]) (spec10 p) rfl ?_ ?_
           · simp -implicitDefEqProofs only [SD, SF, SL, e_nf, reduceCtorEq, implies_true, ↓reduceIte, Nat.reduceEqDiff, Nat.reduceAdd, Nat.reduceMul, Nat.reduceSub, Nat.reduceLeDiff, Nat.reduceLT, Int.reduceLT, Int.reduceLE, Int.reduceEq, Int.reduceToNat, Int.reduceAdd, Int.reduceSub, Int.reduceNeg, Int.reduceBEq, Int.reduceBNe, Nat.reduceBEq, Int.cast_ofNat_Int, decide_true, decide_false, ne_eq, eq_self_iff_true, beq_eq_false_iff_ne, bne_iff_ne, List.replicate, encNw, encPk, *]
             done)
        | ((with_reducible refine of_kSpec ?_)
           refine call_sub (ds' := [.agg (encNw nw), .agg (encPk p)]) (h1) rfl ?_ ?_
           · simp -implicitDefEqProofs only [SD, SF, SL, e_nf, reduceCtorEq, implies_true, ↓reduceIte, Nat.reduceEqDiff, Nat.reduceAdd, Nat.reduceMul, Nat.reduceSub, Nat.reduceLeDiff, Nat.reduceLT, Int.reduceLT, Int.reduceLE, Int.reduceEq, Int.reduceToNat, Int.reduceAdd, Int.reduceSub, Int.reduceNeg, Int.reduceBEq, Int.reduceBNe, Nat.reduceBEq, Int.cast_ofNat_Int, decide_true, decide_false, ne_eq, eq_self_iff_true, beq_eq_false_iff_ne, bne_iff_ne, List.replicate, encNw, encPk, *]
             done)
        | ((with_reducible refine of_kSpec ?_)
           refine call_sub (ds' := [.agg (encNw X), .int .i64 (-1)]) (n1) rfl ?_ ?_
           · simp -implicitDefEqProofs only [SD, SF, SL, e_nf, reduceCtorEq, implies_true, ↓reduceIte, Nat.reduceEqDiff, Nat.reduceAdd, Nat.reduceMul, Nat.reduceSub, Nat.reduceLeDiff, Nat.reduceLT, Int.reduceLT, Int.reduceLE, Int.reduceEq, Int.reduceToNat, Int.reduceAdd, Int.reduceSub, Int.reduceNeg, Int.reduceBEq, Int.reduceBNe, Nat.reduceBEq, Int.cast_ofNat_Int, decide_true, decide_false, ne_eq, eq_self_iff_true, beq_eq_false_iff_ne, bne_iff_ne, List.replicate, encNw, encPk, *]
             done)
        | ((with_reducible refine of_kSpec ?_)
           refine call_sub (ds' := [.agg (encNw X), .int .i64 i]) (n2) rfl ?_ ?_
           · simp -implicitDefEqProofs only [SD, SF, SL, e_nf, reduceCtorEq, implies_true, ↓reduceIte, Nat.reduceEqDiff, Nat.reduceAdd, Nat.reduceMul, Nat.reduceSub, Nat.reduceLeDiff, Nat.reduceLT, Int.reduceLT, Int.reduceLE, Int.reduceEq, Int.reduceToNat, Int.reduceAdd, Int.reduceSub, Int.reduceNeg, Int.reduceBEq, Int.reduceBNe, Nat.reduceBEq, Int.cast_ofNat_Int, decide_true, decide_false, ne_eq, eq_self_iff_true, beq_eq_false_iff_ne, bne_iff_ne, List.replicate, encNw, encPk, *]
             done)
        | ((with_reducible refine of_kSpec ?_)
           refine call_sub (ds' := [.agg (encNw X), .int .i64 i]) (d2) rfl ?_ ?_
           · simp -implicitDefEqProofs only [SD, SF, SL, e_nf, reduceCtorEq, implies_true, ↓reduceIte, Nat.reduceEqDiff, Nat.reduceAdd, Nat.reduceMul, Nat.reduceSub, Nat.reduceLeDiff, Nat.reduceLT, Int.reduceLT, Int.reduceLE, Int.reduceEq, Int.reduceToNat, Int.reduceAdd, Int.reduceSub, Int.reduceNeg, Int.reduceBEq, Int.reduceBNe, Nat.reduceBEq, Int.cast_ofNat_Int, decide_true, decide_false, ne_eq, eq_self_iff_true, beq_eq_false_iff_ne, bne_iff_ne, List.replicate, encNw, encPk, *]
             done)
        | ((with_reducible refine of_kSpec ?_)
           refine call_sub (ds' := [.agg (encNw X), .int .i64 i]) (cp) rfl ?_ ?_
           · simp -implicitDefEqProofs only [SD, SF, SL, e_nf, reduceCtorEq, implies_true, ↓reduceIte, Nat.reduceEqDiff, Nat.reduceAdd, Nat.reduceMul, Nat.reduceSub, Nat.reduceLeDiff, Nat.reduceLT, Int.reduceLT, Int.reduceLE, Int.reduceEq, Int.reduceToNat, Int.reduceAdd, Int.reduceSub, Int.reduceNeg, Int.reduceBEq, Int.reduceBNe, Nat.reduceBEq, Int.cast_ofNat_Int, decide_true, decide_false, ne_eq, eq_self_iff_true, beq_eq_false_iff_ne, bne_iff_ne, List.replicate, encNw, encPk, *]
             done)
        | ((with_reducible refine of_kSpec ?_)
           refine call_sub (ds' := [.agg (encPk p), .agg (encPk p)]) (spec21 p p) rfl ?_ ?_
           · simp -implicitDefEqProofs only [SD, SF, SL, e_nf, reduceCtorEq, implies_true, ↓reduceIte, Nat.reduceEqDiff, Nat.reduceAdd, Nat.reduceMul, Nat.reduceSub, Nat.reduceLeDiff, Nat.reduceLT, Int.reduceLT, Int.reduceLE, Int.reduceEq, Int.reduceToNat, Int.reduceAdd, Int.reduceSub, Int.reduceNeg, Int.reduceBEq, Int.reduceBNe, Nat.reduceBEq, Int.cast_ofNat_Int, decide_true, decide_false, ne_eq, eq_self_iff_true, beq_eq_false_iff_ne, bne_iff_ne, List.replicate, encNw, encPk, *]
             done)
        | ((with_reducible refine of_kSpec ?_)
           refine call_sub (ds' := [.agg (encNw nw), .agg (encNw nw)]) (spec14 nw nw) rfl ?_ ?_
           · simp -implicitDefEqProofs only [SD, SF, SL, e_nf, reduceCtorEq, implies_true, ↓reduceIte, Nat.reduceEqDiff, Nat.reduceAdd, Nat.reduceMul, Nat.reduceSub, Nat.reduceLeDiff, Nat.reduceLT, Int.reduceLT, Int.reduceLE, Int.reduceEq, Int.reduceToNat, Int.reduceAdd, Int.reduceSub, Int.reduceNeg, Int.reduceBEq, Int.reduceBNe, Nat.reduceBEq, Int.cast_ofNat_Int, decide_true, decide_false, ne_eq, eq_self_iff_true, beq_eq_false_iff_ne, bne_iff_ne, List.replicate, encNw, encPk, *]
             done)
        | ((with_reducible refine of_kSpec ?_)
           refine call_sub (ds' := [.agg (encNw D), .agg (encNw D)]) (spec14 D D) rfl ?_ ?_
           · simp -implicitDefEqProofs only [SD, SF, SL, e_nf, reduceCtorEq, implies_true, ↓reduceIte, Nat.reduceEqDiff, Nat.reduceAdd, Nat.reduceMul, Nat.reduceSub, Nat.reduceLeDiff, Nat.reduceLT, Int.reduceLT, Int.reduceLE, Int.reduceEq, Int.reduceToNat, Int.reduceAdd, Int.reduceSub, Int.reduceNeg, Int.reduceBEq, Int.reduceBNe, Nat.reduceBEq, Int.cast_ofNat_Int, decide_true, decide_false, ne_eq, eq_self_iff_true, beq_eq_false_iff_ne, bne_iff_ne, List.replicate, encNw, encPk, *]
             done)
        | ((with_reducible refine of_kSpec ?_)
           refine call_sub (ds' := [.agg (encNw X), .agg (encNw X)]) (spec14 X X) rfl ?_ ?_
           · simp -implicitDefEqProofs only [SD, SF, SL, e_nf, reduceCtorEq, implies_true, ↓reduceIte, Nat.reduceEqDiff, Nat.reduceAdd, Nat.reduceMul, Nat.reduceSub, Nat.reduceLeDiff, Nat.reduceLT, Int.reduceLT, Int.reduceLE, Int.reduceEq, Int.reduceToNat, Int.reduceAdd, Int.reduceSub, Int.reduceNeg, Int.reduceBEq, Int.reduceBNe, Nat.reduceBEq, Int.cast_ofNat_Int, decide_true, decide_false, ne_eq, eq_self_iff_true, beq_eq_false_iff_ne, bne_iff_ne, List.replicate, encNw, encPk, *]
             done)
        | ((with_reducible refine of_kSpec ?_); refine call_fz (spec11) rfl ?_)
        | (with_reducible refine ite_in (fun _ => ?_) (fun _ => ?_))
        | (with_reducible refine ⟨fun _ => ?_, fun _ => ?_⟩)
        | (with_reducible refine And.intro ?_ ?_)
        | (with_reducible intro _)
        | (with_reducible exact is_in _)
        | (simp -implicitDefEqProofs only [SD, SF, SL, e_nf, reduceCtorEq, implies_true, ↓reduceIte, Nat.reduceEqDiff, Nat.reduceAdd, Nat.reduceMul, Nat.reduceSub, Nat.reduceLeDiff, Nat.reduceLT, Int.reduceLT, Int.reduceLE, Int.reduceEq, Int.reduceToNat, Int.reduceAdd, Int.reduceSub, Int.reduceNeg, Int.reduceBEq, Int.reduceBNe, Nat.reduceBEq, Int.cast_ofNat_Int, decide_true, decide_false, ne_eq, eq_self_iff_true, beq_eq_false_iff_ne, bne_iff_ne, List.replicate, encNw, encPk, beq_self_eq_true, bne_self_eq_false, *]))))
      all_goals (first | (simp_all; done) | (simp_all; omega))
    · obtain ⟨m1, m2⟩ := next_last X.packets f X.cuts
      have hCl : (⟨X.packets ++ [f], X.cuts⟩ : Ntw).packets.length = X.packets.length + 1 := by simp
      rw [e6 hk2] at cp
      obtain ⟨C, hC⟩ : ∃ r, r = (⟨X.packets ++ [f], X.cuts⟩ : Ntw) := ⟨_, rfl⟩
      rw [← hC] at cp m1 m2 hCl
      have n3 := spec19 C (-1) (by omega)
      have d3 := spec22 C (-1) (by omega)
      rw [m1] at n3
      rw [m2] at d3
      have hk3 : ¬ (1000 : Int) ≤ X.packets.length := by omega
      clear e6 e7 m1 m2 hC
      iterate 180 (all_goals (try (first
        | ((with_reducible refine of_kSpec ?_)
           refine call_sub (ds' := [.agg (encNw nw)]) (spec9 nw) rfl ?_ ?_
           · simp -implicitDefEqProofs only [SD, SF, SL, e_nf, reduceCtorEq, implies_true, ↓reduceIte, Nat.reduceEqDiff, Nat.reduceAdd, Nat.reduceMul, Nat.reduceSub, Nat.reduceLeDiff, Nat.reduceLT, Int.reduceLT, Int.reduceLE, Int.reduceEq, Int.reduceToNat, Int.reduceAdd, Int.reduceSub, Int.reduceNeg, Int.reduceBEq, Int.reduceBNe, Nat.reduceBEq, Int.cast_ofNat_Int, decide_true, decide_false, ne_eq, eq_self_iff_true, beq_eq_false_iff_ne, bne_iff_ne, List.replicate, encNw, encPk, *]
             done)
        | ((with_reducible refine of_kSpec ?_)
           refine call_sub (ds' := [.agg (encPk p)]) (spec10 p) rfl ?_ ?_
           · simp -implicitDefEqProofs only [SD, SF, SL, e_nf, reduceCtorEq, implies_true, ↓reduceIte, Nat.reduceEqDiff, Nat.reduceAdd, Nat.reduceMul, Nat.reduceSub, Nat.reduceLeDiff, Nat.reduceLT, Int.reduceLT, Int.reduceLE, Int.reduceEq, Int.reduceToNat, Int.reduceAdd, Int.reduceSub, Int.reduceNeg, Int.reduceBEq, Int.reduceBNe, Nat.reduceBEq, Int.cast_ofNat_Int, decide_true, decide_false, ne_eq, eq_self_iff_true, beq_eq_false_iff_ne, bne_iff_ne, List.replicate, encNw, encPk, *]
             done)
        | ((with_reducible refine of_kSpec ?_)
           refine call_sub (ds' := [.agg (encNw nw), .agg (encPk p)]) (h1) rfl ?_ ?_
           · simp -implicitDefEqProofs only [SD, SF, SL, e_nf, reduceCtorEq, implies_true, ↓reduceIte, Nat.reduceEqDiff, Nat.reduceAdd, Nat.reduceMul, Nat.reduceSub, Nat.reduceLeDiff, Nat.reduceLT, Int.reduceLT, Int.reduceLE, Int.reduceEq, Int.reduceToNat, Int.reduceAdd, Int.reduceSub, Int.reduceNeg, Int.reduceBEq, Int.reduceBNe, Nat.reduceBEq, Int.cast_ofNat_Int, decide_true, decide_false, ne_eq, eq_self_iff_true, beq_eq_false_iff_ne, bne_iff_ne, List.replicate, encNw, encPk, *]
             done)
        | ((with_reducible refine of_kSpec ?_)
           refine call_sub (ds' := [.agg (encNw X), .int .i64 (-1)]) (n1) rfl ?_ ?_
           · simp -implicitDefEqProofs only [SD, SF, SL, e_nf, reduceCtorEq, implies_true, ↓reduceIte, Nat.reduceEqDiff, Nat.reduceAdd, Nat.reduceMul, Nat.reduceSub, Nat.reduceLeDiff, Nat.reduceLT, Int.reduceLT, Int.reduceLE, Int.reduceEq, Int.reduceToNat, Int.reduceAdd, Int.reduceSub, Int.reduceNeg, Int.reduceBEq, Int.reduceBNe, Nat.reduceBEq, Int.cast_ofNat_Int, decide_true, decide_false, ne_eq, eq_self_iff_true, beq_eq_false_iff_ne, bne_iff_ne, List.replicate, encNw, encPk, *]
             done)
        | ((with_reducible refine of_kSpec ?_)
           refine call_sub (ds' := [.agg (encNw X), .int .i64 i]) (n2) rfl ?_ ?_
           · simp -implicitDefEqProofs only [SD, SF, SL, e_nf, reduceCtorEq, implies_true, ↓reduceIte, Nat.reduceEqDiff, Nat.reduceAdd, Nat.reduceMul, Nat.reduceSub, Nat.reduceLeDiff, Nat.reduceLT, Int.reduceLT, Int.reduceLE, Int.reduceEq, Int.reduceToNat, Int.reduceAdd, Int.reduceSub, Int.reduceNeg, Int.reduceBEq, Int.reduceBNe, Nat.reduceBEq, Int.cast_ofNat_Int, decide_true, decide_false, ne_eq, eq_self_iff_true, beq_eq_false_iff_ne, bne_iff_ne, List.replicate, encNw, encPk, *]
             done)
        | ((with_reducible refine of_kSpec ?_)
           refine call_sub (ds' := [.agg (encNw X), .int .i64 i]) (d2) rfl ?_ ?_
           · simp -implicitDefEqProofs only [SD, SF, SL, e_nf, reduceCtorEq, implies_true, ↓reduceIte, Nat.reduceEqDiff, Nat.reduceAdd, Nat.reduceMul, Nat.reduceSub, Nat.reduceLeDiff, Nat.reduceLT, Int.reduceLT, Int.reduceLE, Int.reduceEq, Int.reduceToNat, Int.reduceAdd, Int.reduceSub, Int.reduceNeg, Int.reduceBEq, Int.reduceBNe, Nat.reduceBEq, Int.cast_ofNat_Int, decide_true, decide_false, ne_eq, eq_self_iff_true, beq_eq_false_iff_ne, bne_iff_ne, List.replicate, encNw, encPk, *]
             done)
        | ((with_reducible refine of_kSpec ?_)
           refine call_sub (ds' := [.agg (encNw X), .int .i64 i]) (cp) rfl ?_ ?_
           · simp -implicitDefEqProofs only [SD, SF, SL, e_nf, reduceCtorEq, implies_true, ↓reduceIte, Nat.reduceEqDiff, Nat.reduceAdd, Nat.reduceMul, Nat.reduceSub, Nat.reduceLeDiff, Nat.reduceLT, Int.reduceLT, Int.reduceLE, Int.reduceEq, Int.reduceToNat, Int.reduceAdd, Int.reduceSub, Int.reduceNeg, Int.reduceBEq, Int.reduceBNe, Nat.reduceBEq, Int.cast_ofNat_Int, decide_true, decide_false, ne_eq, eq_self_iff_true, beq_eq_false_iff_ne, bne_iff_ne, List.replicate, encNw, encPk, *]
             done)
        | ((with_reducible refine of_kSpec ?_)
           refine call_sub (ds' := [.agg (encPk p), .agg (encPk p)]) (spec21 p p) rfl ?_ ?_
           · simp -implicitDefEqProofs only [SD, SF, SL, e_nf, reduceCtorEq, implies_true, ↓reduceIte, Nat.reduceEqDiff, Nat.reduceAdd, Nat.reduceMul, Nat.reduceSub, Nat.reduceLeDiff, Nat.reduceLT, Int.reduceLT, Int.reduceLE, Int.reduceEq, Int.reduceToNat, Int.reduceAdd, Int.reduceSub, Int.reduceNeg, Int.reduceBEq, Int.reduceBNe, Nat.reduceBEq, Int.cast_ofNat_Int, decide_true, decide_false, ne_eq, eq_self_iff_true, beq_eq_false_iff_ne, bne_iff_ne, List.replicate, encNw, encPk, *]
             done)
        | ((with_reducible refine of_kSpec ?_)
           refine call_sub (ds' := [.agg (encNw nw), .agg (encNw nw)]) (spec14 nw nw) rfl ?_ ?_
           · simp -implicitDefEqProofs only [SD, SF, SL, e_nf, reduceCtorEq, implies_true, ↓reduceIte, Nat.reduceEqDiff, Nat.reduceAdd, Nat.reduceMul, Nat.reduceSub, Nat.reduceLeDiff, Nat.reduceLT, Int.reduceLT, Int.reduceLE, Int.reduceEq, Int.reduceToNat, Int.reduceAdd, Int.reduceSub, Int.reduceNeg, Int.reduceBEq, Int.reduceBNe, Nat.reduceBEq, Int.cast_ofNat_Int, decide_true, decide_false, ne_eq, eq_self_iff_true, beq_eq_false_iff_ne, bne_iff_ne, List.replicate, encNw, encPk, *]
             done)
        | ((with_reducible refine of_kSpec ?_)
           refine call_sub (ds' := [.agg (encNw D), .agg (encNw D)]) (spec14 D D) rfl ?_ ?_
           · simp -implicitDefEqProofs only [SD, SF, SL, e_nf, reduceCtorEq, implies_true, ↓reduceIte, Nat.reduceEqDiff, Nat.reduceAdd, Nat.reduceMul, Nat.reduceSub, Nat.reduceLeDiff, Nat.reduceLT, Int.reduceLT, Int.reduceLE, Int.reduceEq, Int.reduceToNat, Int.reduceAdd, Int.reduceSub, Int.reduceNeg, Int.reduceBEq, Int.reduceBNe, Nat.reduceBEq, Int.cast_ofNat_Int, decide_true, decide_false, ne_eq, eq_self_iff_true, beq_eq_false_iff_ne, bne_iff_ne, List.replicate, encNw, encPk, *]
             done)
        | ((with_reducible refine of_kSpec ?_)
           refine call_sub (ds' := [.agg (encNw X), .agg (encNw X)]) (spec14 X X) rfl ?_ ?_
           · simp -implicitDefEqProofs only [SD, SF, SL, e_nf, reduceCtorEq, implies_true, ↓reduceIte, Nat.reduceEqDiff, Nat.reduceAdd, Nat.reduceMul, Nat.reduceSub, Nat.reduceLeDiff, Nat.reduceLT, Int.reduceLT, Int.reduceLE, Int.reduceEq, Int.reduceToNat, Int.reduceAdd, Int.reduceSub, Int.reduceNeg, Int.reduceBEq, Int.reduceBNe, Nat.reduceBEq, Int.cast_ofNat_Int, decide_true, decide_false, ne_eq, eq_self_iff_true, beq_eq_false_iff_ne, bne_iff_ne, List.replicate, encNw, encPk, *]
             done)
        | ((with_reducible refine of_kSpec ?_)
           refine call_sub (ds' := [.agg (encNw C), .int .i64 (-1)]) (n3) rfl ?_ ?_
           · simp -implicitDefEqProofs only [SD, SF, SL, e_nf, reduceCtorEq, implies_true, ↓reduceIte, Nat.reduceEqDiff, Nat.reduceAdd, Nat.reduceMul, Nat.reduceSub, Nat.reduceLeDiff, Nat.reduceLT, Int.reduceLT, Int.reduceLE, Int.reduceEq, Int.reduceToNat, Int.reduceAdd, Int.reduceSub, Int.reduceNeg, Int.reduceBEq, Int.reduceBNe, Nat.reduceBEq, Int.cast_ofNat_Int, decide_true, decide_false, ne_eq, eq_self_iff_true, beq_eq_false_iff_ne, bne_iff_ne, List.replicate, encNw, encPk, *]
             done)
        | ((with_reducible refine of_kSpec ?_)
           refine call_sub (ds' := [.agg (encNw C), .int .i64 (-1)]) (d3) rfl ?_ ?_
           · simp -implicitDefEqProofs only [SD, SF, SL, e_nf, reduceCtorEq, implies_true, ↓reduceIte, Nat.reduceEqDiff, Nat.reduceAdd, Nat.reduceMul, Nat.reduceSub, Nat.reduceLeDiff, Nat.reduceLT, Int.reduceLT, Int.reduceLE, Int.reduceEq, Int.reduceToNat, Int.reduceAdd, Int.reduceSub, Int.reduceNeg, Int.reduceBEq, Int.reduceBNe, Nat.reduceBEq, Int.cast_ofNat_Int, decide_true, decide_false, ne_eq, eq_self_iff_true, beq_eq_false_iff_ne, bne_iff_ne, List.replicate, encNw, encPk, *]
             done)
        | ((with_reducible refine of_kSpec ?_)
           refine call_sub (ds' := [.agg (encPk f), .agg (encPk f)]) (spec21 f f) rfl ?_ ?_
           · simp -implicitDefEqProofs only [SD, SF, SL, e_nf, reduceCtorEq, implies_true, ↓reduceIte, Nat.reduceEqDiff, Nat.reduceAdd, Nat.reduceMul, Nat.reduceSub, Nat.reduceLeDiff, Nat.reduceLT, Int.reduceLT, Int.reduceLE, Int.reduceEq, Int.reduceToNat, Int.reduceAdd, Int.reduceSub, Int.reduceNeg, Int.reduceBEq, Int.reduceBNe, Nat.reduceBEq, Int.cast_ofNat_Int, decide_true, decide_false, ne_eq, eq_self_iff_true, beq_eq_false_iff_ne, bne_iff_ne, List.replicate, encNw, encPk, *]
             done)
        | ((with_reducible refine of_kSpec ?_); refine call_fz (spec11) rfl ?_)
        | (with_reducible refine ite_in (fun _ => ?_) (fun _ => ?_))
        | (with_reducible refine ⟨fun _ => ?_, fun _ => ?_⟩)
        | (with_reducible refine And.intro ?_ ?_)
        | (with_reducible intro _)
        | (with_reducible exact is_in _)
        | (simp -implicitDefEqProofs only [SD, SF, SL, e_nf, reduceCtorEq, implies_true, ↓reduceIte, Nat.reduceEqDiff, Nat.reduceAdd, Nat.reduceMul, Nat.reduceSub, Nat.reduceLeDiff, Nat.reduceLT, Int.reduceLT, Int.reduceLE, Int.reduceEq, Int.reduceToNat, Int.reduceAdd, Int.reduceSub, Int.reduceNeg, Int.reduceBEq, Int.reduceBNe, Nat.reduceBEq, Int.cast_ofNat_Int, decide_true, decide_false, ne_eq, eq_self_iff_true, beq_eq_false_iff_ne, bne_iff_ne, List.replicate, encNw, encPk, beq_self_eq_true, bne_self_eq_false, *]))))
      all_goals (first | (simp_all; done) | (simp_all; omega))


end Go.Proofs.Ytklbfafdioeehaa.E
