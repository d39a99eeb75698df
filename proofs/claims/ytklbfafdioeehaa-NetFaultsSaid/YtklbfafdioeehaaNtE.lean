/-
  NtE: walks of functions of the program at data level.
-/
import Derived.Test.YtklbfafdioeehaaProg
import Derived.Test.YtklbfafdioeehaaEngZ
import Derived.Test.YtklbfafdioeehaaNtD
import Derived.Test.YtklbfafdioeehaaDel2
import Derived.KernelRfl
set_option linter.unusedVariables false
set_option linter.unusedSimpArgs false
namespace Go.Proofs.Ytklbfafdioeehaa.E
open Go
set_option maxHeartbeats 4000000
set_option maxRecDepth 100000
set_option linter.unusedSimpArgs false
set_option linter.unusedVariables false
attribute [local congr] c_wp c_ops c_op c_opS c_run c_runS c_dt c_seq c_blk c_loop c_S c_put c_bind c_mv c_pick c_nt c_ng c_bin c_binI c_binS c_beq c_B c_eqa c_hd c_cells c_blkK c_box c_vec c_mp c_nck c_mks c_appn c_mkm c_mput c_mlk c_mrm c_take c_ld c_ldF c_cellsK c_st c_fld c_fldv c_ix c_ixp c_ixv c_ixs c_sub c_subs c_len c_lens c_src c_dst c_ow c_app c_ext c_mm c_conv c_str c_isn c_fill c_rows c_boxo c_frz c_frzO c_frzA c_frzV c_spec c_specO c_opsP c_opP c_runP c_specP c_Z c_qretP c_fz c_fn c_gv c_cond c_res1 c_resL c_ret c_qret c_ite c_unr c_nx c_bk c_cut c_is
attribute [local irreducible] dwp

def e0Nw : Ntw := ⟨[], []⟩
def zPk : Pk := ⟨[], [], 0, 0, [], [], [], [], [], 0⟩
def sendR (nw : Ntw) (p : Pk) : Ntw × Int := if openB nw.cuts p.frm p.dest = false then (e0Nw, 30) else if 1000 ≤ nw.packets.length then (e0Nw, 29) else (⟨nw.packets ++ [p], nw.cuts⟩, 0)
def copyR (nw : Ntw) (i : Int) : Ntw := if nw.packets.length = 0 ∨ 1000 ≤ nw.packets.length then nw else ⟨nw.packets ++ [nw.packets.getD (idxR nw.packets.length i) zPk], nw.cuts⟩
def dropR (nw : Ntw) (i : Int) : Ntw := if nw.packets.length = 0 then nw else ⟨nw.packets.take (idxR nw.packets.length i) ++ nw.packets.drop (idxR nw.packets.length i + 1), nw.cuts⟩
def nextR (nw : Ntw) (i : Int) : (Ntw × Pk) × Bool := if nw.packets.length = 0 then ((e0Nw, zPk), false) else ((dropR nw i, nw.packets.getD (idxR nw.packets.length i) zPk), true)
theorem row_at {l : List Pk} {k : Nat} (h : k < l.length) : (l.map encPk).getD k [] = encPk (l.getD k zPk) := by
  simp [List.getD, h]
theorem enc_mid (l : List Pk) (k : Nat) : (l.take k ++ l.drop (k + 1)).map encPk = (l.map encPk).take k ++ (l.map encPk).drop (k + 1) := by
  rw [List.map_append, List.map_take, List.map_drop]
def ac12 : AC := (.seq (.ops [⟨(some 2), none, (.box (.t 0))⟩, ⟨(some 3), none, (.box (.t 1))⟩, ⟨(some 4), none, (.alloc [.e0, .e0])⟩, ⟨(some 5), none, (.mv (.c (.int .i64 0)))⟩]) (.seq (.seq (.ops [⟨(some 6), none, (.ld true 2 (.t 2))⟩, ⟨(some 7), none, (.fld 0 (.t 3))⟩, ⟨(some 8), none, (.ld false 1 (.t 7))⟩, ⟨(some 9), none, (.fld 1 (.t 3))⟩, ⟨(some 10), none, (.ld false 1 (.t 9))⟩, ⟨(some 11), none, (.call false 17 [(.t 6), (.t 8), (.t 10)])⟩, ⟨(some 12), none, (.nt (.t 11))⟩]) (.cond (.t 12) (.seq (.ops [⟨(some 13), none, (.build [.e0, .e0] [])⟩, ⟨none, none, (.sto 2 (.t 4) (.t 13))⟩, ⟨(some 5), none, (.mv (.c (.int .i64 30)))⟩]) .ret) .skip)) (.seq (.seq (.ops [⟨(some 14), none, (.fld 0 (.t 2))⟩, ⟨(some 15), none, (.ld false 1 (.t 14))⟩, ⟨(some 16), none, (.len (.t 15))⟩, ⟨(some 17), none, (.bin .geq (.t 16) (.c (.int .i64 1000)))⟩]) (.cond (.t 17) (.seq (.ops [⟨(some 18), none, (.build [.e0, .e0] [])⟩, ⟨none, none, (.sto 2 (.t 4) (.t 18))⟩, ⟨(some 5), none, (.mv (.c (.int .i64 29)))⟩]) .ret) .skip)) (.seq (.draw (.q false ⟨(some 19), none, (.fld 0 (.t 2))⟩ (.q false ⟨(some 20), none, (.ld false 1 (.t 19))⟩ (.q false ⟨(some 22), none, (.ld true 10 (.t 3))⟩ (.alt (.op ⟨(some 21), none, (.call false 27 [(.t 20)])⟩ (.op ⟨(some 23), none, (.buildSl 31 10 1 [(.str []), (.str []), (.int .i64 0), (.int .i64 0), (.str []), .e0, .e0, .e0, (.str []), (.int .i64 0)] [(0, (.t 22))])⟩ (.op ⟨(some 24), none, (.app 31 10 160 (.t 21) (.t 23))⟩ (.q false ⟨(some 25), none, (.fld 0 (.t 2))⟩ (.op ⟨none, none, (.sto 1 (.t 25) (.t 24))⟩ .nil))))) (.op ⟨(some 23), none, (.buildSl 31 10 1 [(.str []), (.str []), (.int .i64 0), (.int .i64 0), (.str []), .e0, .e0, .e0, (.str []), (.int .i64 0)] [(0, (.t 22))])⟩ (.op ⟨(some 21), none, (.call false 27 [(.t 20)])⟩ (.op ⟨(some 24), none, (.app 31 10 160 (.t 21) (.t 23))⟩ (.q false ⟨(some 25), none, (.fld 0 (.t 2))⟩ (.op ⟨none, none, (.sto 1 (.t 25) (.t 24))⟩ .nil)))))))))) (.seq (.ops [⟨(some 26), none, (.ld true 2 (.t 2))⟩, ⟨none, none, (.sto 2 (.t 4) (.t 26))⟩, ⟨(some 5), none, (.mv (.c (.int .i64 0)))⟩]) .ret)))))
theorem tr12 : Try.f12.body.bind (trCode Try.prog) = some (strip ac12) := by kernel_rfl
theorem spec12 (nw : Ntw) (p : Pk) : Spec Try.prog 12 [.fz (.agg (encNw nw)), .fz (.agg (encPk p))] (.fz (.tup [.agg (encNw (sendR nw p).1), .int .i64 (sendR nw p).2])) := by
  refine spec_atF (n := 25) (ars := [(.c true 2 4), (.t 5)]) (ac := ac12) [] Try.func12 (by kernel_rfl) (by kernel_rfl) tr12 (by kernel_rfl) ?_
  unfold ac12
  by_cases h1k : 1000 ≤ nw.packets.length
  · have h1i : (1000 : Int) ≤ nw.packets.length := by omega
    iterate 40 (all_goals (try (first
      | ((with_reducible refine of_kSpec ?_)
         refine call_sub (ds' := [.agg (encNw nw), .str p.frm, .str p.dest]) (spec17 nw p.frm p.dest) rfl ?_ ?_
         · simp -implicitDefEqProofs only [SD, SF, SL, e_nf, reduceCtorEq, implies_true, ↓reduceIte, Nat.reduceEqDiff, Nat.reduceAdd, Nat.reduceMul, Nat.reduceSub, Nat.reduceLeDiff, Nat.reduceLT, Int.reduceLT, Int.reduceLE, Int.reduceEq, Int.reduceToNat, Int.reduceAdd, Int.reduceSub, Int.reduceNeg, Int.reduceBEq, Int.reduceBNe, Nat.reduceBEq, Int.cast_ofNat_Int, decide_true, decide_false, ne_eq, eq_self_iff_true, beq_eq_false_iff_ne, bne_iff_ne, List.replicate, encNw, encPk, *]
           done)
      | (with_reducible refine ite_in (fun _ => ?_) (fun _ => ?_))
      | (with_reducible refine ⟨fun _ => ?_, fun _ => ?_⟩)
      | (with_reducible refine And.intro ?_ ?_)
      | (with_reducible intro _)
      | (with_reducible exact is_in _)
      | (simp -implicitDefEqProofs only [SD, SF, SL, e_nf, reduceCtorEq, implies_true, ↓reduceIte, Nat.reduceEqDiff, Nat.reduceAdd, Nat.reduceMul, Nat.reduceSub, Nat.reduceLeDiff, Nat.reduceLT, Int.reduceLT, Int.reduceLE, Int.reduceEq, Int.reduceToNat, Int.reduceAdd, Int.reduceSub, Int.reduceNeg, Int.reduceBEq, Int.reduceBNe, Nat.reduceBEq, Int.cast_ofNat_Int, decide_true, decide_false, ne_eq, eq_self_iff_true, beq_eq_false_iff_ne, bne_iff_ne, List.replicate, encNw, encPk, *]))))
    all_goals (first
      | (simp_all [sendR, encNw, encPk, e0Nw]; done)
      | omega
      | (simp only [maxLen] at *; omega)
      | (have hq : sendR nw p = (⟨nw.packets ++ [p], nw.cuts⟩, 0) := by
           unfold sendR
           rw [if_neg (by assumption), if_neg h1k]
         first | (rw [hq]; done) | (rw [hq]; rfl) | (rw [hq]; simp [encPk]; done)))
  · have h1i : ¬ (1000 : Int) ≤ nw.packets.length := by omega
    iterate 60 (all_goals (try (first
      | ((with_reducible refine of_kSpec ?_)
         refine call_sub (ds' := [.agg (encNw nw), .str p.frm, .str p.dest]) (spec17 nw p.frm p.dest) rfl ?_ ?_
         · simp -implicitDefEqProofs only [SD, SF, SL, e_nf, reduceCtorEq, implies_true, ↓reduceIte, Nat.reduceEqDiff, Nat.reduceAdd, Nat.reduceMul, Nat.reduceSub, Nat.reduceLeDiff, Nat.reduceLT, Int.reduceLT, Int.reduceLE, Int.reduceEq, Int.reduceToNat, Int.reduceAdd, Int.reduceSub, Int.reduceNeg, Int.reduceBEq, Int.reduceBNe, Nat.reduceBEq, Int.cast_ofNat_Int, decide_true, decide_false, ne_eq, eq_self_iff_true, beq_eq_false_iff_ne, bne_iff_ne, List.replicate, encNw, encPk, *]
           done)
      | ((with_reducible refine of_kSpec ?_); refine call_ow (spec27 nw.packets (by omega)) rfl ?_)
      | (with_reducible refine ite_in (fun _ => ?_) (fun _ => ?_))
      | (with_reducible refine ⟨fun _ => ?_, fun _ => ?_⟩)
      | (with_reducible refine And.intro ?_ ?_)
      | (with_reducible intro _)
      | (with_reducible exact is_in _)
      | (simp -implicitDefEqProofs only [SD, SF, SL, e_nf, reduceCtorEq, implies_true, ↓reduceIte, Nat.reduceEqDiff, Nat.reduceAdd, Nat.reduceMul, Nat.reduceSub, Nat.reduceLeDiff, Nat.reduceLT, Int.reduceLT, Int.reduceLE, Int.reduceEq, Int.reduceToNat, Int.reduceAdd, Int.reduceSub, Int.reduceNeg, Int.reduceBEq, Int.reduceBNe, Nat.reduceBEq, Int.cast_ofNat_Int, decide_true, decide_false, ne_eq, eq_self_iff_true, beq_eq_false_iff_ne, bne_iff_ne, List.replicate, encNw, encPk, *]))))
    all_goals (first
      | (simp_all [sendR, encNw, encPk, e0Nw]; done)
      | omega
      | (simp only [maxLen] at *; omega)
      | (have hq : sendR nw p = (⟨nw.packets ++ [p], nw.cuts⟩, 0) := by
           unfold sendR
           rw [if_neg (by assumption), if_neg h1k]
         first | (rw [hq]; done) | (rw [hq]; rfl) | (rw [hq]; simp [encPk]; done)))
def ac13 : AC := (.seq (.ops [⟨(some 2), none, (.box (.t 0))⟩, ⟨(some 3), none, (.box (.t 1))⟩, ⟨(some 4), none, (.alloc [.e0, .e0])⟩, ⟨(some 5), none, (.mv (.c (.int .i64 0)))⟩]) (.seq (.seq (.ops [⟨(some 6), none, (.ld true 2 (.t 2))⟩, ⟨(some 7), none, (.fld 0 (.t 3))⟩, ⟨(some 8), none, (.ld false 1 (.t 7))⟩, ⟨(some 9), none, (.fld 1 (.t 3))⟩, ⟨(some 10), none, (.ld false 1 (.t 9))⟩, ⟨(some 11), none, (.call false 18 [(.t 6), (.t 8), (.t 10)])⟩, ⟨(some 12), none, (.nt (.t 11))⟩]) (.cond (.t 12) (.seq (.ops [⟨(some 13), none, (.build [.e0, .e0] [])⟩, ⟨none, none, (.sto 2 (.t 4) (.t 13))⟩, ⟨(some 5), none, (.mv (.c (.int .i64 30)))⟩]) .ret) .skip)) (.seq (.seq (.ops [⟨(some 14), none, (.fld 0 (.t 2))⟩, ⟨(some 15), none, (.ld false 1 (.t 14))⟩, ⟨(some 16), none, (.len (.t 15))⟩, ⟨(some 17), none, (.bin .geq (.t 16) (.c (.int .i64 1000)))⟩]) (.cond (.t 17) (.seq (.ops [⟨(some 18), none, (.build [.e0, .e0] [])⟩, ⟨none, none, (.sto 2 (.t 4) (.t 18))⟩, ⟨(some 5), none, (.mv (.c (.int .i64 29)))⟩]) .ret) .skip)) (.seq (.draw (.q false ⟨(some 20), none, (.fld 0 (.t 2))⟩ (.q false ⟨(some 21), none, (.ld false 1 (.t 20))⟩ (.q false ⟨(some 23), none, (.ld true 10 (.t 3))⟩ (.alt (.op ⟨(some 19), none, (.bs0 31 10 [(.str []), (.str []), (.int .i64 0), (.int .i64 0), (.str []), .e0, .e0, .e0, (.str []), (.int .i64 0)])⟩ (.alt (.op ⟨(some 22), none, (.appn 31 10 160 (.t 19) (.t 21))⟩ (.op ⟨(some 24), none, (.buildSl 31 10 1 [(.str []), (.str []), (.int .i64 0), (.int .i64 0), (.str []), .e0, .e0, .e0, (.str []), (.int .i64 0)] [(0, (.t 23))])⟩ (.op ⟨(some 25), none, (.app 31 10 160 (.t 22) (.t 24))⟩ (.q false ⟨(some 26), none, (.fld 0 (.t 2))⟩ (.op ⟨none, none, (.sto 1 (.t 26) (.t 25))⟩ .nil))))) (.op ⟨(some 24), none, (.buildSl 31 10 1 [(.str []), (.str []), (.int .i64 0), (.int .i64 0), (.str []), .e0, .e0, .e0, (.str []), (.int .i64 0)] [(0, (.t 23))])⟩ (.op ⟨(some 22), none, (.appn 31 10 160 (.t 19) (.t 21))⟩ (.op ⟨(some 25), none, (.app 31 10 160 (.t 22) (.t 24))⟩ (.q false ⟨(some 26), none, (.fld 0 (.t 2))⟩ (.op ⟨none, none, (.sto 1 (.t 26) (.t 25))⟩ .nil))))))) (.op ⟨(some 24), none, (.buildSl 31 10 1 [(.str []), (.str []), (.int .i64 0), (.int .i64 0), (.str []), .e0, .e0, .e0, (.str []), (.int .i64 0)] [(0, (.t 23))])⟩ (.op ⟨(some 19), none, (.bs0 31 10 [(.str []), (.str []), (.int .i64 0), (.int .i64 0), (.str []), .e0, .e0, .e0, (.str []), (.int .i64 0)])⟩ (.op ⟨(some 22), none, (.appn 31 10 160 (.t 19) (.t 21))⟩ (.op ⟨(some 25), none, (.app 31 10 160 (.t 22) (.t 24))⟩ (.q false ⟨(some 26), none, (.fld 0 (.t 2))⟩ (.op ⟨none, none, (.sto 1 (.t 26) (.t 25))⟩ .nil))))))))))) (.seq (.ops [⟨(some 27), none, (.ld true 2 (.t 2))⟩, ⟨none, none, (.sto 2 (.t 4) (.t 27))⟩, ⟨(some 5), none, (.mv (.c (.int .i64 0)))⟩]) .ret)))))
theorem tr13 : Try.f13.body.bind (trCodeF Try.prog [19, 22]) = some (strip ac13) := by kernel_rfl
theorem spec13 (nw : Ntw) (p : Pk) : Spec Try.prog 13 [.fz (.agg (encNw nw)), .fz (.agg (encPk p))] (.fz (.tup [.agg (encNw (sendR nw p).1), .int .i64 (sendR nw p).2])) := by
  refine spec_atF (n := 26) (ars := [(.c true 2 4), (.t 5)]) (ac := ac13) [19, 22] Try.func13 (by kernel_rfl) (by kernel_rfl) tr13 (by kernel_rfl) ?_
  unfold ac13
  by_cases h1k : 1000 ≤ nw.packets.length
  · have h1i : (1000 : Int) ≤ nw.packets.length := by omega
    iterate 40 (all_goals (try (first
      | ((with_reducible refine of_kSpec ?_)
         refine call_sub (ds' := [.agg (encNw nw), .str p.frm, .str p.dest]) (spec18 nw p.frm p.dest) rfl ?_ ?_
         · simp -implicitDefEqProofs only [SD, SF, SL, e_nf, reduceCtorEq, implies_true, ↓reduceIte, Nat.reduceEqDiff, Nat.reduceAdd, Nat.reduceMul, Nat.reduceSub, Nat.reduceLeDiff, Nat.reduceLT, Int.reduceLT, Int.reduceLE, Int.reduceEq, Int.reduceToNat, Int.reduceAdd, Int.reduceSub, Int.reduceNeg, Int.reduceBEq, Int.reduceBNe, Nat.reduceBEq, Int.cast_ofNat_Int, decide_true, decide_false, ne_eq, eq_self_iff_true, beq_eq_false_iff_ne, bne_iff_ne, List.replicate, encNw, encPk, *]
           done)
      | (with_reducible refine ite_in (fun _ => ?_) (fun _ => ?_))
      | (with_reducible refine ⟨fun _ => ?_, fun _ => ?_⟩)
      | (with_reducible refine And.intro ?_ ?_)
      | (with_reducible intro _)
      | (with_reducible exact is_in _)
      | (simp -implicitDefEqProofs only [SD, SF, SL, e_nf, reduceCtorEq, implies_true, ↓reduceIte, Nat.reduceEqDiff, Nat.reduceAdd, Nat.reduceMul, Nat.reduceSub, Nat.reduceLeDiff, Nat.reduceLT, Int.reduceLT, Int.reduceLE, Int.reduceEq, Int.reduceToNat, Int.reduceAdd, Int.reduceSub, Int.reduceNeg, Int.reduceBEq, Int.reduceBNe, Nat.reduceBEq, Int.cast_ofNat_Int, decide_true, decide_false, ne_eq, eq_self_iff_true, beq_eq_false_iff_ne, bne_iff_ne, List.replicate, encNw, encPk, *]))))
    all_goals (first
      | (simp_all [sendR, encNw, encPk, e0Nw]; done)
      | omega
      | (simp only [maxLen] at *; omega)
      | (have hq : sendR nw p = (⟨nw.packets ++ [p], nw.cuts⟩, 0) := by
           unfold sendR
           rw [if_neg (by assumption), if_neg h1k]
         first | (rw [hq]; done) | (rw [hq]; rfl) | (rw [hq]; simp [encPk]; done)))
  · have h1i : ¬ (1000 : Int) ≤ nw.packets.length := by omega
    iterate 60 (all_goals (try (first
      | ((with_reducible refine of_kSpec ?_)
         refine call_sub (ds' := [.agg (encNw nw), .str p.frm, .str p.dest]) (spec18 nw p.frm p.dest) rfl ?_ ?_
         · simp -implicitDefEqProofs only [SD, SF, SL, e_nf, reduceCtorEq, implies_true, ↓reduceIte, Nat.reduceEqDiff, Nat.reduceAdd, Nat.reduceMul, Nat.reduceSub, Nat.reduceLeDiff, Nat.reduceLT, Int.reduceLT, Int.reduceLE, Int.reduceEq, Int.reduceToNat, Int.reduceAdd, Int.reduceSub, Int.reduceNeg, Int.reduceBEq, Int.reduceBNe, Nat.reduceBEq, Int.cast_ofNat_Int, decide_true, decide_false, ne_eq, eq_self_iff_true, beq_eq_false_iff_ne, bne_iff_ne, List.replicate, encNw, encPk, *]
           done)
      | ((with_reducible refine of_kSpec ?_); refine call_ow (spec27 nw.packets (by omega)) rfl ?_)
      | (with_reducible refine ite_in (fun _ => ?_) (fun _ => ?_))
      | (with_reducible refine ⟨fun _ => ?_, fun _ => ?_⟩)
      | (with_reducible refine And.intro ?_ ?_)
      | (with_reducible intro _)
      | (with_reducible exact is_in _)
      | (simp -implicitDefEqProofs only [SD, SF, SL, e_nf, reduceCtorEq, implies_true, ↓reduceIte, Nat.reduceEqDiff, Nat.reduceAdd, Nat.reduceMul, Nat.reduceSub, Nat.reduceLeDiff, Nat.reduceLT, Int.reduceLT, Int.reduceLE, Int.reduceEq, Int.reduceToNat, Int.reduceAdd, Int.reduceSub, Int.reduceNeg, Int.reduceBEq, Int.reduceBNe, Nat.reduceBEq, Int.cast_ofNat_Int, decide_true, decide_false, ne_eq, eq_self_iff_true, beq_eq_false_iff_ne, bne_iff_ne, List.replicate, encNw, encPk, *]))))
    all_goals (first
      | (simp_all [sendR, encNw, encPk, e0Nw]; done)
      | omega
      | (simp only [maxLen] at *; omega)
      | (have hq : sendR nw p = (⟨nw.packets ++ [p], nw.cuts⟩, 0) := by
           unfold sendR
           rw [if_neg (by assumption), if_neg h1k]
         first | (rw [hq]; done) | (rw [hq]; rfl) | (rw [hq]; simp [encPk]; done)))

end Go.Proofs.Ytklbfafdioeehaa.E
