/-
  NtG: walks of functions of the program at data level.
-/
import Derived.Test.YtklbfafdioeehaaProg
import Derived.Test.YtklbfafdioeehaaEngZ
import Derived.Test.YtklbfafdioeehaaNtF
import Derived.KernelRfl
set_option linter.unusedVariables false
set_option linter.unusedSimpArgs false
namespace Go.Proofs.Ytklbfafdioeehaa.E
open Go
set_option maxHeartbeats 4000000
set_option maxRecDepth 100000
set_option linter.unusedSimpArgs false
set_option linter.unusedVariables false
attribute [local congr] c_wp c_ops c_op c_opS c_run c_runS c_dt c_seq c_blk c_loop c_S c_put c_bind c_mv c_pick c_nt c_ng c_bin c_binI c_binS c_beq c_B c_eqa c_hd c_cells c_blkK c_box c_vec c_mp c_nck c_mks c_appn c_mkm c_mput c_mlk c_mrm c_take c_ld c_ldF c_cellsK c_st c_fld c_fldv c_ix c_ixp c_ixv c_ixs c_sub c_subs c_len c_lens c_src c_dst c_ow c_app c_ext c_mm c_conv c_str c_isn c_fill c_rows c_boxo c_frz c_frzO c_frzA c_frzV c_spec c_specO c_opsP c_opP c_runP c_specP c_Z c_qretP c_fz c_fn c_gv c_cond c_res1 c_resL c_ret c_qret c_ite c_unr c_nx c_bk c_cut c_is
attribute [local irreducible] dwp

theorem loop_r {P : Program} {Q : AE → DS → Prop} {X : Type} {c : AC} {E : List DV} {M : Mem} (R : Nat → X → Prop) (pe : X → List (Nat × DV)) (pm : X → List (Nat × Blk)) (ts0 ks ks0 : List Nat) (n0 : Nat) (x0 : X) (hR : R n0 x0)
    (h0 : forget ts0 ks0 ⟨E, M⟩ = ⟨pE (pe x0) (forgetE ts0 E), pM (pm x0) (msort (mdels ks M))⟩)
    (hr : ∀ n x, R n x → dwp P c ⟨pE (pe x) (forgetE ts0 E), pM (pm x) (msort (mdels ks M))⟩
      (kLoop (kBk R (fun x => ⟨pE (pe x) (forgetE ts0 E), pM (pm x) (msort (mdels ks M))⟩) n) Q)) : dwp P (.loop c) ⟨E, M⟩ Q := by
  unfold dwp
  refine ⟨fun n s => ∃ x, R n x ∧ s = ⟨pE (pe x) (forgetE ts0 E), pM (pm x) (msort (mdels ks M))⟩, n0, ts0, ks0, ⟨x0, hR, h0⟩, ?_⟩
  rintro n s ⟨x, hx, rfl⟩
  exact hr n x hx

def delD (k : Nat) (l : List Pk) : List Pk := l.take k ++ l.drop (k + 1)
theorem delD_snoc (k : Nat) (l : List Pk) (x : Pk) : delD k (l ++ [x]) = if l.length = k then delD k l else delD k l ++ [x] := by
  unfold delD
  by_cases h : l.length = k
  · rw [if_pos h]
    subst h
    simp
  · rw [if_neg h]
    by_cases h2 : l.length < k
    · have h3 : (l ++ [x]).length ≤ k := by simp; omega
      rw [List.take_of_length_le h3, List.take_of_length_le (by omega), List.drop_eq_nil_of_le (by simp; omega), List.drop_eq_nil_of_le (by omega)]
      simp
    · rw [List.take_append_of_le_length (by omega), List.drop_append_of_le_length (by omega), List.append_assoc]
theorem delD_len (k : Nat) (l : List Pk) : (delD k l).length ≤ l.length := by
  unfold delD
  simp
  omega
def ac19 : AC := (.seq (.ops [⟨(some 2), none, (.box (.t 0))⟩, ⟨(some 4), none, (.alloc [.e0, .e0])⟩, ⟨(some 5), none, (.alloc [(.str []), (.str []), (.int .i64 0), (.int .i64 0), (.str []), .e0, .e0, .e0, (.str []), (.int .i64 0)])⟩, ⟨(some 6), none, (.mv (.c (.bool false)))⟩]) (.seq (.seq (.ops [⟨(some 9), none, (.fld 0 (.t 2))⟩, ⟨(some 10), none, (.ld false 1 (.t 9))⟩, ⟨(some 11), none, (.len (.t 10))⟩, ⟨(some 12), none, (.bin .eql (.t 11) (.c (.int .i64 0)))⟩]) (.cond (.t 12) (.seq (.ops [⟨(some 13), none, (.build [.e0, .e0] [])⟩, ⟨(some 14), none, (.build [(.str []), (.str []), (.int .i64 0), (.int .i64 0), (.str []), .e0, .e0, .e0, (.str []), (.int .i64 0)] [])⟩, ⟨none, none, (.sto 2 (.t 4) (.t 13))⟩, ⟨none, none, (.sto 10 (.t 5) (.t 14))⟩, ⟨(some 6), none, (.mv (.c (.bool false)))⟩]) .ret) .skip)) (.seq (.ops [⟨(some 15), none, (.ld true 2 (.t 2))⟩, ⟨(some 16), none, (.mv (.t 1))⟩, ⟨(some 17), none, (.call false 33 [(.t 15), (.t 16)])⟩, ⟨(some 7), none, (.mv (.t 17))⟩]) (.seq (.ops [⟨(some 18), none, (.fld 0 (.t 2))⟩, ⟨(some 19), none, (.ld false 1 (.t 18))⟩, ⟨(some 20), none, (.mv (.t 7))⟩, ⟨(some 21), none, (.ix 10 (.t 19) (.t 20))⟩, ⟨(some 22), none, (.ld true 10 (.t 21))⟩, ⟨(some 8), none, (.alloc [(.str []), (.str []), (.int .i64 0), (.int .i64 0), (.str []), .e0, .e0, .e0, (.str []), (.int .i64 0)])⟩, ⟨none, none, (.sto 10 (.t 8) (.t 22))⟩]) (.seq (.ops [⟨(some 23), none, (.fld 0 (.t 2))⟩, ⟨(some 24), none, (.ld false 1 (.t 23))⟩, ⟨(some 25), none, (.call false 27 [(.t 24)])⟩, ⟨(some 26), none, (.mv (.t 7))⟩, ⟨(some 27), none, (.mv (.t 7))⟩, ⟨(some 28), none, (.bin .add (.t 27) (.c (.int .i64 1)))⟩, ⟨(some 29), none, (.call true 34 [(.t 25), (.t 26), (.t 28)])⟩, ⟨(some 30), none, (.fld 0 (.t 2))⟩, ⟨none, none, (.sto 1 (.t 30) (.t 29))⟩]) (.seq (.fz 8 (.draw (.q false ⟨(some 31), none, (.ld true 2 (.t 2))⟩ (.q true ⟨(some 32), none, (.ld true 10 (.t 8))⟩ (.op ⟨none, none, (.sto 2 (.t 4) (.t 31))⟩ (.op ⟨none, none, (.sto 10 (.t 5) (.t 32))⟩ (.q false ⟨(some 6), none, (.mv (.c (.bool true)))⟩ .nil))))))) .ret))))))
theorem tr19 : Try.f19.body.bind (trCodeF Try.prog [29]) = some (strip ac19) := by kernel_rfl
theorem spec19 (nw : Ntw) (i : Int) (hp : nw.packets.length ≤ 2000) : Spec Try.prog 19 [.fz (.agg (encNw nw)), .fz (.int .i64 i)] (.fz (.tup [.agg (encNw (nextR nw i).1.1), .agg (encPk (nextR nw i).1.2), .bool (nextR nw i).2])) := by
  refine spec_atF (n := 31) (ars := [(.c true 2 4), (.c true 10 5), (.t 6)]) (ac := ac19) [29] Try.func19 (by kernel_rfl) (by kernel_rfl) tr19 (by kernel_rfl) ?_
  unfold ac19
  by_cases h0 : nw.packets.length = 0
  · have h0i : (nw.packets.length : Int) = 0 := by omega
    have hz : ¬ ((0 : Int) < nw.packets.length) := by omega
    have hq : nextR nw i = ((e0Nw, zPk), false) := by unfold nextR; simp [h0]
    iterate 30 (all_goals (try (first
      | (with_reducible refine ite_in (fun _ => ?_) (fun _ => ?_))
      | (with_reducible refine ⟨fun _ => ?_, fun _ => ?_⟩)
      | (with_reducible refine And.intro ?_ ?_)
      | (with_reducible intro _)
      | (with_reducible exact is_in _)
      | (simp -implicitDefEqProofs only [SD, SF, SL, e_nf, reduceCtorEq, implies_true, ↓reduceIte, Nat.reduceEqDiff, Nat.reduceAdd, Nat.reduceMul, Nat.reduceSub, Nat.reduceLeDiff, Nat.reduceLT, Int.reduceLT, Int.reduceLE, Int.reduceEq, Int.reduceToNat, Int.reduceAdd, Int.reduceSub, Int.reduceNeg, Int.reduceBEq, Int.reduceBNe, Nat.reduceBEq, Int.cast_ofNat_Int, decide_true, decide_false, ne_eq, eq_self_iff_true, beq_eq_false_iff_ne, bne_iff_ne, List.replicate, encNw, encPk, *]))))
    all_goals (first
      | (simp_all [copyR, dropR, nextR, encNw, encPk, e0Nw, zPk]; done)
      | omega
      | (simp only [maxLen] at *; omega)
      | (rw [hq]; done)
      | (rw [hq]; rfl)
      | (rw [hq]; simp [encPk]; done)
      | (rw [hq, enc_mid]; done)
      | (rw [hq, enc_mid]; rfl)
      | (rw [hq, enc_mid]; simp [encPk]; done))

  have h0i : ¬ ((nw.packets.length : Int) = 0) := by omega
  have hz : (0 : Int) < nw.packets.length := by omega
  obtain ⟨hk, _, _⟩ := idx_facts h0 (by simp only [maxLen]; omega) i
  have hrow := row_at hk
  simp only [encPk] at hrow
  have hki : (idxR nw.packets.length i : Int) < nw.packets.length := by omega
  have hkw : IntKind.i64.wrap ((idxR nw.packets.length i : Int) + 1) = (idxR nw.packets.length i : Int) + 1 := wrap_in (by omega) (by omega)
  obtain ⟨k, hke⟩ : ∃ k, k = idxR nw.packets.length i := ⟨_, rfl⟩
  have hpl := spec33 nw i h0
  have hpi := spec35 nw i h0
  rw [← hke] at hk hrow hki hkw hpl hpi
  have hq : nextR nw i = ((⟨nw.packets.take k ++ nw.packets.drop (k + 1), nw.cuts⟩, nw.packets.getD k zPk), true) := by
    unfold nextR dropR
    rw [if_neg h0, if_neg h0, hke]
  clear hke
  iterate 70 (all_goals (try (first
    | ((with_reducible refine of_kSpec ?_)
       refine call_sub (ds' := [.agg (encNw nw), .int .i64 i]) (hpl) rfl ?_ ?_
       · simp -implicitDefEqProofs only [SD, SF, SL, e_nf, reduceCtorEq, implies_true, ↓reduceIte, Nat.reduceEqDiff, Nat.reduceAdd, Nat.reduceMul, Nat.reduceSub, Nat.reduceLeDiff, Nat.reduceLT, Int.reduceLT, Int.reduceLE, Int.reduceEq, Int.reduceToNat, Int.reduceAdd, Int.reduceSub, Int.reduceNeg, Int.reduceBEq, Int.reduceBNe, Nat.reduceBEq, Int.cast_ofNat_Int, decide_true, decide_false, ne_eq, eq_self_iff_true, beq_eq_false_iff_ne, bne_iff_ne, List.replicate, encNw, encPk, *]
         done)
    | ((with_reducible refine of_kSpec ?_); refine call_ow (spec27 nw.packets (by omega)) rfl ?_)
    | ((with_reducible refine of_kSpecO ?_); refine callO_ow (ks := [25]) (spec34 (nw.packets.map encPk) k (by simpa using hk)) (by repeat (first | exact KArgs.nil | refine KArgs.fz rfl ?_ | refine KArgs.own rfl rfl ?_)) rfl ?_)
    | (with_reducible refine ite_in (fun _ => ?_) (fun _ => ?_))
    | (with_reducible refine ⟨fun _ => ?_, fun _ => ?_⟩)
    | (with_reducible refine And.intro ?_ ?_)
    | (with_reducible intro _)
    | (with_reducible exact is_in _)
    | (simp -implicitDefEqProofs only [SD, SF, SL, e_nf, reduceCtorEq, implies_true, ↓reduceIte, Nat.reduceEqDiff, Nat.reduceAdd, Nat.reduceMul, Nat.reduceSub, Nat.reduceLeDiff, Nat.reduceLT, Int.reduceLT, Int.reduceLE, Int.reduceEq, Int.reduceToNat, Int.reduceAdd, Int.reduceSub, Int.reduceNeg, Int.reduceBEq, Int.reduceBNe, Nat.reduceBEq, Int.cast_ofNat_Int, decide_true, decide_false, ne_eq, eq_self_iff_true, beq_eq_false_iff_ne, bne_iff_ne, List.replicate, encNw, encPk, *]))))
  all_goals (first
    | (simp_all [copyR, dropR, nextR, encNw, encPk, e0Nw, zPk]; done)
    | omega
    | (simp only [maxLen] at *; omega)
    | (rw [hq]; done)
    | (rw [hq]; rfl)
    | (rw [hq]; simp [encPk]; done)
    | (rw [hq, enc_mid]; done)
    | (rw [hq, enc_mid]; rfl)
    | (rw [hq, enc_mid]; simp [encPk]; done))

end Go.Proofs.Ytklbfafdioeehaa.E
