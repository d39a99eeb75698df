/-
  NtI: walks of functions of the program at data level.
-/
import Derived.Test.YtklbfafdioeehaaProg
import Derived.Test.YtklbfafdioeehaaEngZ
import Derived.Test.YtklbfafdioeehaaNtH
import Derived.KernelRfl
set_option linter.unusedVariables false
set_option linter.unusedSimpArgs false
namespace Go.Proofs.Ytklbfafdioeehaa.E
open Go
set_option maxHeartbeats 4000000
set_option maxRecDepth 100000
set_option linter.unusedSimpArgs false
set_option linter.unusedVariables false
attribute [local congr] c_wp c_ops c_op c_opS c_run c_runS c_dt c_seq c_blk c_loop c_S c_put c_bind c_mv c_pick c_nt c_ng c_bin c_binI c_binS c_beq c_B c_eqa c_hd c_cells c_blkK c_box c_vec c_mp c_nck c_mks c_appn c_mkm c_mput c_mlk c_mrm c_take c_ld c_ldF c_cellsK c_st c_fld c_fldv c_ix c_ixp c_ixv c_ixs c_sub c_subs c_len c_lens c_src c_dst c_ow c_app c_ext c_mm c_conv c_str c_isn c_fill c_rows c_boxo c_frz c_frzO c_frzA c_frzV c_spec c_specO c_opsP c_opP c_runP c_specP c_Z c_qretP c_fz c_fn c_gv c_cond c_res1 c_resL c_ret c_qret c_ite c_unr c_nx c_bk c_cut c_is
attribute [local irreducible] dwp
def ac20 : AC := (.seq (.ops [⟨(some 2), none, (.box (.t 0))⟩, ⟨(some 4), none, (.alloc [.e0, .e0])⟩, ⟨(some 5), none, (.alloc [(.str []), (.str []), (.int .i64 0), (.int .i64 0), (.str []), .e0, .e0, .e0, (.str []), (.int .i64 0)])⟩, ⟨(some 6), none, (.mv (.c (.bool false)))⟩]) (.seq (.seq (.ops [⟨(some 8), none, (.fld 0 (.t 2))⟩, ⟨(some 9), none, (.ld false 1 (.t 8))⟩, ⟨(some 10), none, (.len (.t 9))⟩, ⟨(some 11), none, (.bin .eql (.t 10) (.c (.int .i64 0)))⟩]) (.cond (.t 11) (.seq (.ops [⟨(some 12), none, (.build [.e0, .e0] [])⟩, ⟨(some 13), none, (.build [(.str []), (.str []), (.int .i64 0), (.int .i64 0), (.str []), .e0, .e0, .e0, (.str []), (.int .i64 0)] [])⟩, ⟨none, none, (.sto 2 (.t 4) (.t 12))⟩, ⟨none, none, (.sto 10 (.t 5) (.t 13))⟩, ⟨(some 6), none, (.mv (.c (.bool false)))⟩]) .ret) .skip)) (.seq (.draw (.q false ⟨(some 14), none, (.fld 0 (.t 2))⟩ (.q false ⟨(some 15), none, (.ld false 1 (.t 14))⟩ (.q false ⟨(some 16), none, (.ld true 2 (.t 2))⟩ (.q false ⟨(some 17), none, (.mv (.t 1))⟩ (.alt (.op ⟨(some 18), none, (.call false 35 [(.t 16), (.t 17)])⟩ (.q false ⟨(some 19), none, (.ix 10 (.t 15) (.t 18))⟩ (.q false ⟨(some 20), none, (.ld true 10 (.t 19))⟩ (.op ⟨(some 7), none, (.alloc [(.str []), (.str []), (.int .i64 0), (.int .i64 0), (.str []), .e0, .e0, .e0, (.str []), (.int .i64 0)])⟩ (.op ⟨none, none, (.sto 10 (.t 7) (.t 20))⟩ .nil))))) (.op ⟨(some 7), none, (.alloc [(.str []), (.str []), (.int .i64 0), (.int .i64 0), (.str []), .e0, .e0, .e0, (.str []), (.int .i64 0)])⟩ (.op ⟨(some 18), none, (.call false 35 [(.t 16), (.t 17)])⟩ (.q false ⟨(some 19), none, (.ix 10 (.t 15) (.t 18))⟩ (.q false ⟨(some 20), none, (.ld true 10 (.t 19))⟩ (.op ⟨none, none, (.sto 10 (.t 7) (.t 20))⟩ .nil))))))))))) (.seq (.fz 7 (.draw (.q false ⟨(some 21), none, (.ld true 2 (.t 2))⟩ (.q false ⟨(some 22), none, (.mv (.t 1))⟩ (.q true ⟨(some 24), none, (.ld true 10 (.t 7))⟩ (.op ⟨(some 23), none, (.call false 23 [(.t 21), (.t 22)])⟩ (.op ⟨none, none, (.sto 2 (.t 4) (.t 23))⟩ (.op ⟨none, none, (.sto 10 (.t 5) (.t 24))⟩ (.q false ⟨(some 6), none, (.mv (.c (.bool true)))⟩ .nil))))))))) .ret))))
theorem tr20 : Try.f20.body.bind (trCode Try.prog) = some (strip ac20) := by kernel_rfl
theorem spec20 (nw : Ntw) (i : Int) (hp : nw.packets.length ≤ 2000) : Spec Try.prog 20 [.fz (.agg (encNw nw)), .fz (.int .i64 i)] (.fz (.tup [.agg (encNw (nextR nw i).1.1), .agg (encPk (nextR nw i).1.2), .bool (nextR nw i).2])) := by
  refine spec_at (n := 23) (ars := [(.c true 2 4), (.c true 10 5), (.t 6)]) (ac := ac20) Try.func20 (by kernel_rfl) (by kernel_rfl) tr20 (by kernel_rfl) ?_
  unfold ac20
  by_cases h0 : nw.packets.length = 0
  · have h0i : (nw.packets.length : Int) = 0 := by omega
    have hz : ¬ ((0 : Int) < nw.packets.length) := by omega
    have hq : nextR nw i = ((e0Nw, zPk), false) := by unfold nextR; simp [h0]
    iterate 30 (all_goals (try (first
      | (with_reducible refine ite_in (fun _ => ?_) (fun _ => ?_))
      | (with_reducible refine ⟨fun _ => ?_, fun _ => ?_⟩)
      | (with_reducible refine And.intro ?_ ?_)
      | (with_reducible intro _)
      | (with_reducible exact is_in _)
      | (simp -implicitDefEqProofs only [SD, SF, SL, e_nf, reduceCtorEq, implies_true, ↓reduceIte, Nat.reduceEqDiff, Nat.reduceAdd, Nat.reduceMul, Nat.reduceSub, Nat.reduceLeDiff, Nat.reduceLT, Int.reduceLT, Int.reduceLE, Int.reduceEq, Int.reduceToNat, Int.reduceAdd, Int.reduceSub, Int.reduceNeg, Int.reduceBEq, Int.reduceBNe, Nat.reduceBEq, Int.cast_ofNat_Int, decide_true, decide_false, ne_eq, eq_self_iff_true, beq_eq_false_iff_ne, bne_iff_ne, List.replicate, encNw, encPk, *]))))
    all_goals (first
      | (simp_all [copyR, dropR, nextR, encNw, encPk, e0Nw, zPk]; done)
      | omega
      | (simp only [maxLen] at *; omega)
      | (rw [hq]; done)
      | (rw [hq]; rfl)
      | (rw [hq]; simp [encPk]; done)
      | (rw [hq, enc_mid]; done)
      | (rw [hq, enc_mid]; rfl)
      | (rw [hq, enc_mid]; simp [encPk]; done))

  have h0i : ¬ ((nw.packets.length : Int) = 0) := by omega
  have hz : (0 : Int) < nw.packets.length := by omega
  obtain ⟨hk, _, _⟩ := idx_facts h0 (by simp only [maxLen]; omega) i
  have hrow := row_at hk
  simp only [encPk] at hrow
  have hki : (idxR nw.packets.length i : Int) < nw.packets.length := by omega
  have hkw : IntKind.i64.wrap ((idxR nw.packets.length i : Int) + 1) = (idxR nw.packets.length i : Int) + 1 := wrap_in (by omega) (by omega)
  obtain ⟨k, hke⟩ : ∃ k, k = idxR nw.packets.length i := ⟨_, rfl⟩
  have hpl := spec33 nw i h0
  have hpi := spec35 nw i h0
  rw [← hke] at hk hrow hki hkw hpl hpi
  have hq : nextR nw i = ((dropR nw i, nw.packets.getD k zPk), true) := by
    unfold nextR
    rw [if_neg h0, hke]
  clear hke
  obtain ⟨dd, hdd⟩ : ∃ dd, dd = dropR nw i := ⟨_, rfl⟩
  have hsd := spec23 nw i hp
  rw [← hdd] at hq hsd
  iterate 70 (all_goals (try (first
    | ((with_reducible refine of_kSpec ?_)
       refine call_sub (ds' := [.agg (encNw nw), .int .i64 i]) (hpi) rfl ?_ ?_
       · simp -implicitDefEqProofs only [SD, SF, SL, e_nf, reduceCtorEq, implies_true, ↓reduceIte, Nat.reduceEqDiff, Nat.reduceAdd, Nat.reduceMul, Nat.reduceSub, Nat.reduceLeDiff, Nat.reduceLT, Int.reduceLT, Int.reduceLE, Int.reduceEq, Int.reduceToNat, Int.reduceAdd, Int.reduceSub, Int.reduceNeg, Int.reduceBEq, Int.reduceBNe, Nat.reduceBEq, Int.cast_ofNat_Int, decide_true, decide_false, ne_eq, eq_self_iff_true, beq_eq_false_iff_ne, bne_iff_ne, List.replicate, encNw, encPk, *]
         done)
    | ((with_reducible refine of_kSpec ?_)
       refine call_sub (ds' := [.agg (encNw nw), .int .i64 i]) (hsd) rfl ?_ ?_
       · simp -implicitDefEqProofs only [SD, SF, SL, e_nf, reduceCtorEq, implies_true, ↓reduceIte, Nat.reduceEqDiff, Nat.reduceAdd, Nat.reduceMul, Nat.reduceSub, Nat.reduceLeDiff, Nat.reduceLT, Int.reduceLT, Int.reduceLE, Int.reduceEq, Int.reduceToNat, Int.reduceAdd, Int.reduceSub, Int.reduceNeg, Int.reduceBEq, Int.reduceBNe, Nat.reduceBEq, Int.cast_ofNat_Int, decide_true, decide_false, ne_eq, eq_self_iff_true, beq_eq_false_iff_ne, bne_iff_ne, List.replicate, encNw, encPk, *]
         done)
    | (with_reducible refine ite_in (fun _ => ?_) (fun _ => ?_))
    | (with_reducible refine ⟨fun _ => ?_, fun _ => ?_⟩)
    | (with_reducible refine And.intro ?_ ?_)
    | (with_reducible intro _)
    | (with_reducible exact is_in _)
    | (simp -implicitDefEqProofs only [SD, SF, SL, e_nf, reduceCtorEq, implies_true, ↓reduceIte, Nat.reduceEqDiff, Nat.reduceAdd, Nat.reduceMul, Nat.reduceSub, Nat.reduceLeDiff, Nat.reduceLT, Int.reduceLT, Int.reduceLE, Int.reduceEq, Int.reduceToNat, Int.reduceAdd, Int.reduceSub, Int.reduceNeg, Int.reduceBEq, Int.reduceBNe, Nat.reduceBEq, Int.cast_ofNat_Int, decide_true, decide_false, ne_eq, eq_self_iff_true, beq_eq_false_iff_ne, bne_iff_ne, List.replicate, encNw, encPk, *]))))
  all_goals (first
    | (simp_all [copyR, dropR, nextR, encNw, encPk, e0Nw, zPk]; done)
    | omega
    | (simp only [maxLen] at *; omega)
    | (rw [hq]; done)
    | (rw [hq]; rfl)
    | (rw [hq]; simp [encPk]; done)
    | (rw [hq, enc_mid]; done)
    | (rw [hq, enc_mid]; rfl)
    | (rw [hq, enc_mid]; simp [encPk]; done))

end Go.Proofs.Ytklbfafdioeehaa.E
