/-
  NtF: walks of functions of the program at data level.
-/
import Derived.Test.YtklbfafdioeehaaProg
import Derived.Test.YtklbfafdioeehaaEngZ
import Derived.Test.YtklbfafdioeehaaNtE
import Derived.KernelRfl
set_option linter.unusedVariables false
set_option linter.unusedSimpArgs false
namespace Go.Proofs.Ytklbfafdioeehaa.E
open Go
set_option maxHeartbeats 4000000
set_option maxRecDepth 100000
set_option linter.unusedSimpArgs false
set_option linter.unusedVariables false
attribute [local congr] c_wp c_ops c_op c_opS c_run c_runS c_dt c_seq c_blk c_loop c_S c_put c_bind c_mv c_pick c_nt c_ng c_bin c_binI c_binS c_beq c_B c_eqa c_hd c_cells c_blkK c_box c_vec c_mp c_nck c_mks c_appn c_mkm c_mput c_mlk c_mrm c_take c_ld c_ldF c_cellsK c_st c_fld c_fldv c_ix c_ixp c_ixv c_ixs c_sub c_subs c_len c_lens c_src c_dst c_ow c_app c_ext c_mm c_conv c_str c_isn c_fill c_rows c_boxo c_frz c_frzO c_frzA c_frzV c_spec c_specO c_opsP c_opP c_runP c_specP c_Z c_qretP c_fz c_fn c_gv c_cond c_res1 c_resL c_ret c_qret c_ite c_unr c_nx c_bk c_cut c_is
attribute [local irreducible] dwp
def ac24 : AC := (.seq (.ops [⟨(some 2), none, (.box (.t 0))⟩, ⟨(some 4), none, (.alloc [.e0, .e0])⟩]) (.seq (.seq (.ops [⟨(some 5), none, (.fld 0 (.t 2))⟩, ⟨(some 6), none, (.ld false 1 (.t 5))⟩, ⟨(some 7), none, (.len (.t 6))⟩, ⟨(some 8), none, (.bin .gtr (.t 7) (.c (.int .i64 0)))⟩, ⟨(some 9), none, (.mv (.t 8))⟩, ⟨(some 10), (some (9, true)), (.fld 0 (.t 2))⟩, ⟨(some 11), (some (9, true)), (.ld false 1 (.t 10))⟩, ⟨(some 12), (some (9, true)), (.len (.t 11))⟩, ⟨(some 13), (some (9, true)), (.bin .lss (.t 12) (.c (.int .i64 1000)))⟩, ⟨(some 14), none, (.pick (.t 9) (.t 13) (.c (.bool false)))⟩]) (.cond (.t 14) (.draw (.q false ⟨(some 15), none, (.fld 0 (.t 2))⟩ (.q false ⟨(some 16), none, (.ld false 1 (.t 15))⟩ (.q false ⟨(some 18), none, (.fld 0 (.t 2))⟩ (.q false ⟨(some 19), none, (.ld false 1 (.t 18))⟩ (.q false ⟨(some 20), none, (.ld true 2 (.t 2))⟩ (.q false ⟨(some 21), none, (.mv (.t 1))⟩ (.op ⟨(some 17), none, (.call false 27 [(.t 16)])⟩ (.op ⟨(some 22), none, (.call false 33 [(.t 20), (.t 21)])⟩ (.q false ⟨(some 23), none, (.ix 10 (.t 19) (.t 22))⟩ (.q false ⟨(some 24), none, (.ld true 10 (.t 23))⟩ (.op ⟨(some 25), none, (.buildSl 31 10 1 [(.str []), (.str []), (.int .i64 0), (.int .i64 0), (.str []), .e0, .e0, .e0, (.str []), (.int .i64 0)] [(0, (.t 24))])⟩ (.op ⟨(some 26), none, (.app 31 10 160 (.t 17) (.t 25))⟩ (.q false ⟨(some 27), none, (.fld 0 (.t 2))⟩ (.op ⟨none, none, (.sto 1 (.t 27) (.t 26))⟩ .nil))))))))))))))) .skip)) (.seq (.ops [⟨(some 28), none, (.ld true 2 (.t 2))⟩, ⟨none, none, (.sto 2 (.t 4) (.t 28))⟩]) .ret)))
theorem tr24 : Try.f24.body.bind (trCode Try.prog) = some (strip ac24) := by kernel_rfl
theorem spec24 (nw : Ntw) (i : Int) (hp : nw.packets.length ≤ 2000) : Spec Try.prog 24 [.fz (.agg (encNw nw)), .fz (.int .i64 i)] (.fz (.agg (encNw (copyR nw i)))) := by
  refine spec_atF (n := 27) (ars := [(.c true 2 4)]) (ac := ac24) [] Try.func24 (by kernel_rfl) (by kernel_rfl) tr24 (by kernel_rfl) ?_
  unfold ac24
  by_cases h0 : nw.packets.length = 0
  · have h0i : (nw.packets.length : Int) = 0 := by omega
    have hz : ¬ ((0 : Int) < nw.packets.length) := by omega
    have hq : copyR nw i = nw := by unfold copyR; simp [h0]
    iterate 30 (all_goals (try (first
      | (with_reducible refine ite_in (fun _ => ?_) (fun _ => ?_))
      | (with_reducible refine ⟨fun _ => ?_, fun _ => ?_⟩)
      | (with_reducible refine And.intro ?_ ?_)
      | (with_reducible intro _)
      | (with_reducible exact is_in _)
      | (simp -implicitDefEqProofs only [SD, SF, SL, e_nf, reduceCtorEq, implies_true, ↓reduceIte, Nat.reduceEqDiff, Nat.reduceAdd, Nat.reduceMul, Nat.reduceSub, Nat.reduceLeDiff, Nat.reduceLT, Int.reduceLT, Int.reduceLE, Int.reduceEq, Int.reduceToNat, Int.reduceAdd, Int.reduceSub, Int.reduceNeg, Int.reduceBEq, Int.reduceBNe, Nat.reduceBEq, Int.cast_ofNat_Int, decide_true, decide_false, ne_eq, eq_self_iff_true, beq_eq_false_iff_ne, bne_iff_ne, List.replicate, encNw, encPk, *]))))
    all_goals (first
      | (simp_all [copyR, dropR, nextR, encNw, encPk, e0Nw, zPk]; done)
      | omega
      | (simp only [maxLen] at *; omega)
      | (rw [hq]; done)
      | (rw [hq]; rfl)
      | (rw [hq]; simp [encPk]; done)
      | (rw [hq, enc_mid]; done)
      | (rw [hq, enc_mid]; rfl)
      | (rw [hq, enc_mid]; simp [encPk]; done))

  by_cases h1k : 1000 ≤ nw.packets.length
  · have h1i : (1000 : Int) ≤ nw.packets.length := by omega
    have h0i : ¬ ((nw.packets.length : Int) = 0) := by omega
    have h2i : ¬ ((nw.packets.length : Int) < 1000) := by omega
    have hq : copyR nw i = nw := by unfold copyR; simp [h1k]
    iterate 30 (all_goals (try (first
      | (with_reducible refine ite_in (fun _ => ?_) (fun _ => ?_))
      | (with_reducible refine ⟨fun _ => ?_, fun _ => ?_⟩)
      | (with_reducible refine And.intro ?_ ?_)
      | (with_reducible intro _)
      | (with_reducible exact is_in _)
      | (simp -implicitDefEqProofs only [SD, SF, SL, e_nf, reduceCtorEq, implies_true, ↓reduceIte, Nat.reduceEqDiff, Nat.reduceAdd, Nat.reduceMul, Nat.reduceSub, Nat.reduceLeDiff, Nat.reduceLT, Int.reduceLT, Int.reduceLE, Int.reduceEq, Int.reduceToNat, Int.reduceAdd, Int.reduceSub, Int.reduceNeg, Int.reduceBEq, Int.reduceBNe, Nat.reduceBEq, Int.cast_ofNat_Int, decide_true, decide_false, ne_eq, eq_self_iff_true, beq_eq_false_iff_ne, bne_iff_ne, List.replicate, encNw, encPk, *]))))
    all_goals (first
      | (simp_all [copyR, dropR, nextR, encNw, encPk, e0Nw, zPk]; done)
      | omega
      | (simp only [maxLen] at *; omega)
      | (rw [hq]; done)
      | (rw [hq]; rfl)
      | (rw [hq]; simp [encPk]; done)
      | (rw [hq, enc_mid]; done)
      | (rw [hq, enc_mid]; rfl)
      | (rw [hq, enc_mid]; simp [encPk]; done))
  have h1i : ¬ ((1000 : Int) ≤ nw.packets.length) := by omega
  have h2i : (nw.packets.length : Int) < 1000 := by omega
  have h0i : ¬ ((nw.packets.length : Int) = 0) := by omega
  have hz : (0 : Int) < nw.packets.length := by omega
  obtain ⟨hk, _, _⟩ := idx_facts h0 (by simp only [maxLen]; omega) i
  have hrow := row_at hk
  simp only [encPk] at hrow
  have hki : (idxR nw.packets.length i : Int) < nw.packets.length := by omega
  have hkw : IntKind.i64.wrap ((idxR nw.packets.length i : Int) + 1) = (idxR nw.packets.length i : Int) + 1 := wrap_in (by omega) (by omega)
  obtain ⟨k, hke⟩ : ∃ k, k = idxR nw.packets.length i := ⟨_, rfl⟩
  have hpl := spec33 nw i h0
  have hpi := spec35 nw i h0
  rw [← hke] at hk hrow hki hkw hpl hpi
  have hq : copyR nw i = ⟨nw.packets ++ [nw.packets.getD k zPk], nw.cuts⟩ := by
    unfold copyR
    rw [if_neg (by omega), hke]
  clear hke
  iterate 60 (all_goals (try (first
    | ((with_reducible refine of_kSpec ?_)
       refine call_sub (ds' := [.agg (encNw nw), .int .i64 i]) (hpl) rfl ?_ ?_
       · simp -implicitDefEqProofs only [SD, SF, SL, e_nf, reduceCtorEq, implies_true, ↓reduceIte, Nat.reduceEqDiff, Nat.reduceAdd, Nat.reduceMul, Nat.reduceSub, Nat.reduceLeDiff, Nat.reduceLT, Int.reduceLT, Int.reduceLE, Int.reduceEq, Int.reduceToNat, Int.reduceAdd, Int.reduceSub, Int.reduceNeg, Int.reduceBEq, Int.reduceBNe, Nat.reduceBEq, Int.cast_ofNat_Int, decide_true, decide_false, ne_eq, eq_self_iff_true, beq_eq_false_iff_ne, bne_iff_ne, List.replicate, encNw, encPk, *]
         done)
    | ((with_reducible refine of_kSpec ?_)
       refine call_sub (ds' := [.agg (encNw nw), .int .i64 i]) (hpi) rfl ?_ ?_
       · simp -implicitDefEqProofs only [SD, SF, SL, e_nf, reduceCtorEq, implies_true, ↓reduceIte, Nat.reduceEqDiff, Nat.reduceAdd, Nat.reduceMul, Nat.reduceSub, Nat.reduceLeDiff, Nat.reduceLT, Int.reduceLT, Int.reduceLE, Int.reduceEq, Int.reduceToNat, Int.reduceAdd, Int.reduceSub, Int.reduceNeg, Int.reduceBEq, Int.reduceBNe, Nat.reduceBEq, Int.cast_ofNat_Int, decide_true, decide_false, ne_eq, eq_self_iff_true, beq_eq_false_iff_ne, bne_iff_ne, List.replicate, encNw, encPk, *]
         done)
    | ((with_reducible refine of_kSpec ?_); refine call_ow (spec27 nw.packets (by omega)) rfl ?_)
    | (with_reducible refine ite_in (fun _ => ?_) (fun _ => ?_))
    | (with_reducible refine ⟨fun _ => ?_, fun _ => ?_⟩)
    | (with_reducible refine And.intro ?_ ?_)
    | (with_reducible intro _)
    | (with_reducible exact is_in _)
    | (simp -implicitDefEqProofs only [SD, SF, SL, e_nf, reduceCtorEq, implies_true, ↓reduceIte, Nat.reduceEqDiff, Nat.reduceAdd, Nat.reduceMul, Nat.reduceSub, Nat.reduceLeDiff, Nat.reduceLT, Int.reduceLT, Int.reduceLE, Int.reduceEq, Int.reduceToNat, Int.reduceAdd, Int.reduceSub, Int.reduceNeg, Int.reduceBEq, Int.reduceBNe, Nat.reduceBEq, Int.cast_ofNat_Int, decide_true, decide_false, ne_eq, eq_self_iff_true, beq_eq_false_iff_ne, bne_iff_ne, List.replicate, encNw, encPk, *]))))
  all_goals (first
    | (simp_all [copyR, dropR, nextR, encNw, encPk, e0Nw, zPk]; done)
    | omega
    | (simp only [maxLen] at *; omega)
    | (rw [hq]; done)
    | (rw [hq]; rfl)
    | (rw [hq]; simp [encPk]; done)
    | (rw [hq, enc_mid]; done)
    | (rw [hq, enc_mid]; rfl)
    | (rw [hq, enc_mid]; simp [encPk]; done))
def ac25 : AC := (.seq (.ops [⟨(some 2), none, (.box (.t 0))⟩, ⟨(some 4), none, (.alloc [.e0, .e0])⟩]) (.seq (.seq (.ops [⟨(some 5), none, (.fld 0 (.t 2))⟩, ⟨(some 6), none, (.ld false 1 (.t 5))⟩, ⟨(some 7), none, (.len (.t 6))⟩, ⟨(some 8), none, (.bin .eql (.t 7) (.c (.int .i64 0)))⟩, ⟨(some 9), none, (.mv (.t 8))⟩, ⟨(some 10), (some (9, false)), (.fld 0 (.t 2))⟩, ⟨(some 11), (some (9, false)), (.ld false 1 (.t 10))⟩, ⟨(some 12), (some (9, false)), (.len (.t 11))⟩, ⟨(some 13), (some (9, false)), (.bin .geq (.t 12) (.c (.int .i64 1000)))⟩, ⟨(some 14), none, (.pick (.t 9) (.c (.bool true)) (.t 13))⟩]) (.cond (.t 14) (.seq (.ops [⟨(some 15), none, (.ld true 2 (.t 2))⟩, ⟨none, none, (.sto 2 (.t 4) (.t 15))⟩]) .ret) .skip)) (.seq (.draw (.q false ⟨(some 17), none, (.fld 0 (.t 2))⟩ (.q false ⟨(some 18), none, (.ld false 1 (.t 17))⟩ (.q false ⟨(some 20), none, (.fld 0 (.t 2))⟩ (.q false ⟨(some 21), none, (.ld false 1 (.t 20))⟩ (.q false ⟨(some 22), none, (.ld true 2 (.t 2))⟩ (.q false ⟨(some 23), none, (.mv (.t 1))⟩ (.op ⟨(some 16), none, (.bs0 31 10 [(.str []), (.str []), (.int .i64 0), (.int .i64 0), (.str []), .e0, .e0, .e0, (.str []), (.int .i64 0)])⟩ (.op ⟨(some 19), none, (.appn 31 10 160 (.t 16) (.t 18))⟩ (.op ⟨(some 24), none, (.call false 35 [(.t 22), (.t 23)])⟩ (.q false ⟨(some 25), none, (.ix 10 (.t 21) (.t 24))⟩ (.q false ⟨(some 26), none, (.ld true 10 (.t 25))⟩ (.op ⟨(some 27), none, (.buildSl 31 10 1 [(.str []), (.str []), (.int .i64 0), (.int .i64 0), (.str []), .e0, .e0, .e0, (.str []), (.int .i64 0)] [(0, (.t 26))])⟩ (.op ⟨(some 28), none, (.app 31 10 160 (.t 19) (.t 27))⟩ (.q false ⟨(some 29), none, (.fld 0 (.t 2))⟩ (.op ⟨none, none, (.sto 1 (.t 29) (.t 28))⟩ .nil)))))))))))))))) (.seq (.ops [⟨(some 30), none, (.ld true 2 (.t 2))⟩, ⟨none, none, (.sto 2 (.t 4) (.t 30))⟩]) .ret))))
theorem tr25 : Try.f25.body.bind (trCodeF Try.prog [16, 19]) = some (strip ac25) := by kernel_rfl
theorem spec25 (nw : Ntw) (i : Int) (hp : nw.packets.length ≤ 2000) : Spec Try.prog 25 [.fz (.agg (encNw nw)), .fz (.int .i64 i)] (.fz (.agg (encNw (copyR nw i)))) := by
  refine spec_atF (n := 29) (ars := [(.c true 2 4)]) (ac := ac25) [16, 19] Try.func25 (by kernel_rfl) (by kernel_rfl) tr25 (by kernel_rfl) ?_
  unfold ac25
  by_cases h0 : nw.packets.length = 0
  · have h0i : (nw.packets.length : Int) = 0 := by omega
    have hz : ¬ ((0 : Int) < nw.packets.length) := by omega
    have hq : copyR nw i = nw := by unfold copyR; simp [h0]
    iterate 30 (all_goals (try (first
      | (with_reducible refine ite_in (fun _ => ?_) (fun _ => ?_))
      | (with_reducible refine ⟨fun _ => ?_, fun _ => ?_⟩)
      | (with_reducible refine And.intro ?_ ?_)
      | (with_reducible intro _)
      | (with_reducible exact is_in _)
      | (simp -implicitDefEqProofs only [SD, SF, SL, e_nf, reduceCtorEq, implies_true, ↓reduceIte, Nat.reduceEqDiff, Nat.reduceAdd, Nat.reduceMul, Nat.reduceSub, Nat.reduceLeDiff, Nat.reduceLT, Int.reduceLT, Int.reduceLE, Int.reduceEq, Int.reduceToNat, Int.reduceAdd, Int.reduceSub, Int.reduceNeg, Int.reduceBEq, Int.reduceBNe, Nat.reduceBEq, Int.cast_ofNat_Int, decide_true, decide_false, ne_eq, eq_self_iff_true, beq_eq_false_iff_ne, bne_iff_ne, List.replicate, encNw, encPk, *]))))
    all_goals (first
      | (simp_all [copyR, dropR, nextR, encNw, encPk, e0Nw, zPk]; done)
      | omega
      | (simp only [maxLen] at *; omega)
      | (rw [hq]; done)
      | (rw [hq]; rfl)
      | (rw [hq]; simp [encPk]; done)
      | (rw [hq, enc_mid]; done)
      | (rw [hq, enc_mid]; rfl)
      | (rw [hq, enc_mid]; simp [encPk]; done))

  by_cases h1k : 1000 ≤ nw.packets.length
  · have h1i : (1000 : Int) ≤ nw.packets.length := by omega
    have h0i : ¬ ((nw.packets.length : Int) = 0) := by omega
    have h2i : ¬ ((nw.packets.length : Int) < 1000) := by omega
    have hq : copyR nw i = nw := by unfold copyR; simp [h1k]
    iterate 30 (all_goals (try (first
      | (with_reducible refine ite_in (fun _ => ?_) (fun _ => ?_))
      | (with_reducible refine ⟨fun _ => ?_, fun _ => ?_⟩)
      | (with_reducible refine And.intro ?_ ?_)
      | (with_reducible intro _)
      | (with_reducible exact is_in _)
      | (simp -implicitDefEqProofs only [SD, SF, SL, e_nf, reduceCtorEq, implies_true, ↓reduceIte, Nat.reduceEqDiff, Nat.reduceAdd, Nat.reduceMul, Nat.reduceSub, Nat.reduceLeDiff, Nat.reduceLT, Int.reduceLT, Int.reduceLE, Int.reduceEq, Int.reduceToNat, Int.reduceAdd, Int.reduceSub, Int.reduceNeg, Int.reduceBEq, Int.reduceBNe, Nat.reduceBEq, Int.cast_ofNat_Int, decide_true, decide_false, ne_eq, eq_self_iff_true, beq_eq_false_iff_ne, bne_iff_ne, List.replicate, encNw, encPk, *]))))
    all_goals (first
      | (simp_all [copyR, dropR, nextR, encNw, encPk, e0Nw, zPk]; done)
      | omega
      | (simp only [maxLen] at *; omega)
      | (rw [hq]; done)
      | (rw [hq]; rfl)
      | (rw [hq]; simp [encPk]; done)
      | (rw [hq, enc_mid]; done)
      | (rw [hq, enc_mid]; rfl)
      | (rw [hq, enc_mid]; simp [encPk]; done))
  have h1i : ¬ ((1000 : Int) ≤ nw.packets.length) := by omega
  have h2i : (nw.packets.length : Int) < 1000 := by omega
  have h0i : ¬ ((nw.packets.length : Int) = 0) := by omega
  have hz : (0 : Int) < nw.packets.length := by omega
  obtain ⟨hk, _, _⟩ := idx_facts h0 (by simp only [maxLen]; omega) i
  have hrow := row_at hk
  simp only [encPk] at hrow
  have hki : (idxR nw.packets.length i : Int) < nw.packets.length := by omega
  have hkw : IntKind.i64.wrap ((idxR nw.packets.length i : Int) + 1) = (idxR nw.packets.length i : Int) + 1 := wrap_in (by omega) (by omega)
  obtain ⟨k, hke⟩ : ∃ k, k = idxR nw.packets.length i := ⟨_, rfl⟩
  have hpl := spec33 nw i h0
  have hpi := spec35 nw i h0
  rw [← hke] at hk hrow hki hkw hpl hpi
  have hq : copyR nw i = ⟨nw.packets ++ [nw.packets.getD k zPk], nw.cuts⟩ := by
    unfold copyR
    rw [if_neg (by omega), hke]
  clear hke
  iterate 60 (all_goals (try (first
    | ((with_reducible refine of_kSpec ?_)
       refine call_sub (ds' := [.agg (encNw nw), .int .i64 i]) (hpl) rfl ?_ ?_
       · simp -implicitDefEqProofs only [SD, SF, SL, e_nf, reduceCtorEq, implies_true, ↓reduceIte, Nat.reduceEqDiff, Nat.reduceAdd, Nat.reduceMul, Nat.reduceSub, Nat.reduceLeDiff, Nat.reduceLT, Int.reduceLT, Int.reduceLE, Int.reduceEq, Int.reduceToNat, Int.reduceAdd, Int.reduceSub, Int.reduceNeg, Int.reduceBEq, Int.reduceBNe, Nat.reduceBEq, Int.cast_ofNat_Int, decide_true, decide_false, ne_eq, eq_self_iff_true, beq_eq_false_iff_ne, bne_iff_ne, List.replicate, encNw, encPk, *]
         done)
    | ((with_reducible refine of_kSpec ?_)
       refine call_sub (ds' := [.agg (encNw nw), .int .i64 i]) (hpi) rfl ?_ ?_
       · simp -implicitDefEqProofs only [SD, SF, SL, e_nf, reduceCtorEq, implies_true, ↓reduceIte, Nat.reduceEqDiff, Nat.reduceAdd, Nat.reduceMul, Nat.reduceSub, Nat.reduceLeDiff, Nat.reduceLT, Int.reduceLT, Int.reduceLE, Int.reduceEq, Int.reduceToNat, Int.reduceAdd, Int.reduceSub, Int.reduceNeg, Int.reduceBEq, Int.reduceBNe, Nat.reduceBEq, Int.cast_ofNat_Int, decide_true, decide_false, ne_eq, eq_self_iff_true, beq_eq_false_iff_ne, bne_iff_ne, List.replicate, encNw, encPk, *]
         done)
    | ((with_reducible refine of_kSpec ?_); refine call_ow (spec27 nw.packets (by omega)) rfl ?_)
    | (with_reducible refine ite_in (fun _ => ?_) (fun _ => ?_))
    | (with_reducible refine ⟨fun _ => ?_, fun _ => ?_⟩)
    | (with_reducible refine And.intro ?_ ?_)
    | (with_reducible intro _)
    | (with_reducible exact is_in _)
    | (simp -implicitDefEqProofs only [SD, SF, SL, e_nf, reduceCtorEq, implies_true, ↓reduceIte, Nat.reduceEqDiff, Nat.reduceAdd, Nat.reduceMul, Nat.reduceSub, Nat.reduceLeDiff, Nat.reduceLT, Int.reduceLT, Int.reduceLE, Int.reduceEq, Int.reduceToNat, Int.reduceAdd, Int.reduceSub, Int.reduceNeg, Int.reduceBEq, Int.reduceBNe, Nat.reduceBEq, Int.cast_ofNat_Int, decide_true, decide_false, ne_eq, eq_self_iff_true, beq_eq_false_iff_ne, bne_iff_ne, List.replicate, encNw, encPk, *]))))
  all_goals (first
    | (simp_all [copyR, dropR, nextR, encNw, encPk, e0Nw, zPk]; done)
    | omega
    | (simp only [maxLen] at *; omega)
    | (rw [hq]; done)
    | (rw [hq]; rfl)
    | (rw [hq]; simp [encPk]; done)
    | (rw [hq, enc_mid]; done)
    | (rw [hq, enc_mid]; rfl)
    | (rw [hq, enc_mid]; simp [encPk]; done))

end Go.Proofs.Ytklbfafdioeehaa.E
