/-
  NtP: walks of functions of the program at data level.
-/
import Derived.Test.YtklbfafdioeehaaProg
import Derived.Test.YtklbfafdioeehaaEngZ
import Derived.Test.YtklbfafdioeehaaNtO
import Derived.Test.YtklbfafdioeehaaNtK
import Derived.KernelRfl
set_option linter.unusedVariables false
set_option linter.unusedSimpArgs false
namespace Go.Proofs.Ytklbfafdioeehaa.E
open Go
set_option maxHeartbeats 4000000
set_option maxRecDepth 100000
set_option linter.unusedSimpArgs false
set_option linter.unusedVariables false
attribute [local congr] c_wp c_ops c_op c_opS c_run c_runS c_dt c_seq c_blk c_loop c_S c_put c_bind c_mv c_pick c_nt c_ng c_bin c_binI c_binS c_beq c_B c_eqa c_hd c_cells c_blkK c_box c_vec c_mp c_nck c_mks c_appn c_mkm c_mput c_mlk c_mrm c_take c_ld c_ldF c_cellsK c_st c_fld c_fldv c_ix c_ixp c_ixv c_ixs c_sub c_subs c_len c_lens c_src c_dst c_ow c_app c_ext c_mm c_conv c_str c_isn c_fill c_rows c_boxo c_frz c_frzO c_frzA c_frzV c_spec c_specO c_opsP c_opP c_runP c_specP c_Z c_qretP c_fz c_fn c_gv c_cond c_res1 c_resL c_ret c_qret c_ite c_unr c_nx c_bk c_cut c_is
attribute [local irreducible] dwp
def ac3 : AC := (.seq (.ops [⟨(some 2), none, (.box (.t 0))⟩, ⟨(some 3), none, (.box (.t 1))⟩, ⟨(some 4), none, (.mv (.c (.bool false)))⟩]) (.seq (.seq (.ops [⟨(some 9), none, (.ld true 2 (.t 2))⟩, ⟨(some 10), none, (.call false 9 [(.t 9)])⟩, ⟨(some 11), none, (.mv (.t 10))⟩, ⟨(some 12), (some (11, false)), (.ld true 10 (.t 3))⟩, ⟨(some 13), (some (11, false)), (.call false 10 [(.t 12)])⟩, ⟨(some 14), none, (.pick (.t 11) (.c (.bool true)) (.t 13))⟩]) (.cond (.t 14) (.seq (.ops [⟨(some 15), none, (.call false 11 [])⟩, ⟨(some 4), none, (.mv (.t 15))⟩]) .ret) .skip)) (.seq (.ops [⟨(some 17), none, (.ld true 2 (.t 2))⟩, ⟨(some 18), none, (.ld true 10 (.t 3))⟩, ⟨(some 19), none, (.call false 12 [(.t 17), (.t 18)])⟩, ⟨(some 16), none, (.mv (.t 19))⟩, ⟨(some 20), none, (.ext (.t 16) 0)⟩, ⟨(some 21), none, (.ext (.t 16) 1)⟩, ⟨(some 5), none, (.alloc [.e0, .e0])⟩, ⟨none, none, (.sto 2 (.t 5) (.t 20))⟩, ⟨(some 6), none, (.mv (.t 21))⟩]) (.seq (.ops [⟨(some 23), none, (.ld true 2 (.t 2))⟩, ⟨(some 24), none, (.ld true 10 (.t 3))⟩, ⟨(some 25), none, (.call false 13 [(.t 23), (.t 24)])⟩, ⟨(some 22), none, (.mv (.t 25))⟩, ⟨(some 26), none, (.ext (.t 22) 0)⟩, ⟨(some 27), none, (.ext (.t 22) 1)⟩, ⟨(some 7), none, (.alloc [.e0, .e0])⟩, ⟨none, none, (.sto 2 (.t 7) (.t 26))⟩, ⟨(some 8), none, (.mv (.t 27))⟩]) (.seq (.ops [⟨(some 28), none, (.ld true 2 (.t 5))⟩, ⟨(some 29), none, (.ld true 2 (.t 7))⟩, ⟨(some 30), none, (.call false 14 [(.t 28), (.t 29)])⟩, ⟨(some 31), none, (.mv (.t 30))⟩, ⟨(some 32), (some (31, true)), (.mv (.t 6))⟩, ⟨(some 33), (some (31, true)), (.mv (.t 8))⟩, ⟨(some 34), (some (31, true)), (.bin .eql (.t 32) (.t 33))⟩, ⟨(some 35), none, (.pick (.t 31) (.t 34) (.c (.bool false)))⟩, ⟨(some 36), none, (.mv (.t 35))⟩, ⟨(some 37), (some (36, true)), (.call false 11 [])⟩, ⟨(some 38), none, (.pick (.t 36) (.t 37) (.c (.bool false)))⟩, ⟨(some 4), none, (.mv (.t 38))⟩]) .ret)))))
theorem tr3 : Try.f3.body.bind (trCode Try.prog) = some (strip ac3) := by kernel_rfl
theorem spec3 (nw : Ntw) (p : Pk) : Spec Try.prog 3 [.fz (.agg (encNw nw)), .fz (.agg (encPk p))] (.fz (.bool true)) := by
  refine spec_at (n := 37) (ars := [(.t 4)]) (ac := ac3) Try.func3 (by kernel_rfl) (by kernel_rfl) tr3 (by kernel_rfl) ?_
  unfold ac3
  by_cases hg : greatN nw = true
  · skip
    iterate 40 (all_goals (try (first
      | ((with_reducible refine of_kSpec ?_)
         refine call_sub (ds' := [.agg (encNw nw)]) (spec9 nw) rfl ?_ ?_
         · simp -implicitDefEqProofs only [SD, SF, SL, e_nf, reduceCtorEq, implies_true, ↓reduceIte, Nat.reduceEqDiff, Nat.reduceAdd, Nat.reduceMul, Nat.reduceSub, Nat.reduceLeDiff, Nat.reduceLT, Int.reduceLT, Int.reduceLE, Int.reduceEq, Int.reduceToNat, Int.reduceAdd, Int.reduceSub, Int.reduceNeg, Int.reduceBEq, Int.reduceBNe, Nat.reduceBEq, Int.cast_ofNat_Int, decide_true, decide_false, ne_eq, eq_self_iff_true, beq_eq_false_iff_ne, bne_iff_ne, List.replicate, encNw, encPk, *]
           done)
      | ((with_reducible refine of_kSpec ?_); refine call_fz (spec11) rfl ?_)
      | (with_reducible refine ite_in (fun _ => ?_) (fun _ => ?_))
      | (with_reducible refine ⟨fun _ => ?_, fun _ => ?_⟩)
      | (with_reducible refine And.intro ?_ ?_)
      | (with_reducible intro _)
      | (with_reducible exact is_in _)
      | (simp -implicitDefEqProofs only [SD, SF, SL, e_nf, reduceCtorEq, implies_true, ↓reduceIte, Nat.reduceEqDiff, Nat.reduceAdd, Nat.reduceMul, Nat.reduceSub, Nat.reduceLeDiff, Nat.reduceLT, Int.reduceLT, Int.reduceLE, Int.reduceEq, Int.reduceToNat, Int.reduceAdd, Int.reduceSub, Int.reduceNeg, Int.reduceBEq, Int.reduceBNe, Nat.reduceBEq, Int.cast_ofNat_Int, decide_true, decide_false, ne_eq, eq_self_iff_true, beq_eq_false_iff_ne, bne_iff_ne, List.replicate, encNw, encPk, *]))))
    all_goals (first | (simp_all; done) | (simp_all; omega))
  obtain ⟨hz1, hz2⟩ := greatN_sz hg
  by_cases hp : longP p = true
  · skip
    iterate 40 (all_goals (try (first
      | ((with_reducible refine of_kSpec ?_)
         refine call_sub (ds' := [.agg (encNw nw)]) (spec9 nw) rfl ?_ ?_
         · simp -implicitDefEqProofs only [SD, SF, SL, e_nf, reduceCtorEq, implies_true, ↓reduceIte, Nat.reduceEqDiff, Nat.reduceAdd, Nat.reduceMul, Nat.reduceSub, Nat.reduceLeDiff, Nat.reduceLT, Int.reduceLT, Int.reduceLE, Int.reduceEq, Int.reduceToNat, Int.reduceAdd, Int.reduceSub, Int.reduceNeg, Int.reduceBEq, Int.reduceBNe, Nat.reduceBEq, Int.cast_ofNat_Int, decide_true, decide_false, ne_eq, eq_self_iff_true, beq_eq_false_iff_ne, bne_iff_ne, List.replicate, encNw, encPk, *]
           done)
      | ((with_reducible refine of_kSpec ?_)
         refine call_sub (ds' := [.agg (encPk p)]) (spec10 p) rfl ?_ ?_
         · simp -implicitDefEqProofs only [SD, SF, SL, e_nf, reduceCtorEq, implies_true, ↓reduceIte, Nat.reduceEqDiff, Nat.reduceAdd, Nat.reduceMul, Nat.reduceSub, Nat.reduceLeDiff, Nat.reduceLT, Int.reduceLT, Int.reduceLE, Int.reduceEq, Int.reduceToNat, Int.reduceAdd, Int.reduceSub, Int.reduceNeg, Int.reduceBEq, Int.reduceBNe, Nat.reduceBEq, Int.cast_ofNat_Int, decide_true, decide_false, ne_eq, eq_self_iff_true, beq_eq_false_iff_ne, bne_iff_ne, List.replicate, encNw, encPk, *]
           done)
      | ((with_reducible refine of_kSpec ?_); refine call_fz (spec11) rfl ?_)
      | (with_reducible refine ite_in (fun _ => ?_) (fun _ => ?_))
      | (with_reducible refine ⟨fun _ => ?_, fun _ => ?_⟩)
      | (with_reducible refine And.intro ?_ ?_)
      | (with_reducible intro _)
      | (with_reducible exact is_in _)
      | (simp -implicitDefEqProofs only [SD, SF, SL, e_nf, reduceCtorEq, implies_true, ↓reduceIte, Nat.reduceEqDiff, Nat.reduceAdd, Nat.reduceMul, Nat.reduceSub, Nat.reduceLeDiff, Nat.reduceLT, Int.reduceLT, Int.reduceLE, Int.reduceEq, Int.reduceToNat, Int.reduceAdd, Int.reduceSub, Int.reduceNeg, Int.reduceBEq, Int.reduceBNe, Nat.reduceBEq, Int.cast_ofNat_Int, decide_true, decide_false, ne_eq, eq_self_iff_true, beq_eq_false_iff_ne, bne_iff_ne, List.replicate, encNw, encPk, *]))))
    all_goals (first | (simp_all; done) | (simp_all; omega))
  have h1 := spec12 nw p
  have h2 := spec13 nw p
  obtain ⟨⟨X, e⟩, hr⟩ : ∃ r, r = sendR nw p := ⟨_, rfl⟩
  rw [← hr] at h1 h2
  try dsimp only at h1 h2
  clear hr
  iterate 80 (all_goals (try (first
    | ((with_reducible refine of_kSpec ?_)
       refine call_sub (ds' := [.agg (encNw nw)]) (spec9 nw) rfl ?_ ?_
       · simp -implicitDefEqProofs only [SD, SF, SL, e_nf, reduceCtorEq, implies_true, ↓reduceIte, Nat.reduceEqDiff, Nat.reduceAdd, Nat.reduceMul, Nat.reduceSub, Nat.reduceLeDiff, Nat.reduceLT, Int.reduceLT, Int.reduceLE, Int.reduceEq, Int.reduceToNat, Int.reduceAdd, Int.reduceSub, Int.reduceNeg, Int.reduceBEq, Int.reduceBNe, Nat.reduceBEq, Int.cast_ofNat_Int, decide_true, decide_false, ne_eq, eq_self_iff_true, beq_eq_false_iff_ne, bne_iff_ne, List.replicate, encNw, encPk, *]
         done)
    | ((with_reducible refine of_kSpec ?_)
       refine call_sub (ds' := [.agg (encPk p)]) (spec10 p) rfl ?_ ?_
       · simp -implicitDefEqProofs only [SD, SF, SL, e_nf, reduceCtorEq, implies_true, ↓reduceIte, Nat.reduceEqDiff, Nat.reduceAdd, Nat.reduceMul, Nat.reduceSub, Nat.reduceLeDiff, Nat.reduceLT, Int.reduceLT, Int.reduceLE, Int.reduceEq, Int.reduceToNat, Int.reduceAdd, Int.reduceSub, Int.reduceNeg, Int.reduceBEq, Int.reduceBNe, Nat.reduceBEq, Int.cast_ofNat_Int, decide_true, decide_false, ne_eq, eq_self_iff_true, beq_eq_false_iff_ne, bne_iff_ne, List.replicate, encNw, encPk, *]
         done)
    | ((with_reducible refine of_kSpec ?_)
       refine call_sub (ds' := [.agg (encNw nw), .agg (encPk p)]) (h1) rfl ?_ ?_
       · simp -implicitDefEqProofs only [SD, SF, SL, e_nf, reduceCtorEq, implies_true, ↓reduceIte, Nat.reduceEqDiff, Nat.reduceAdd, Nat.reduceMul, Nat.reduceSub, Nat.reduceLeDiff, Nat.reduceLT, Int.reduceLT, Int.reduceLE, Int.reduceEq, Int.reduceToNat, Int.reduceAdd, Int.reduceSub, Int.reduceNeg, Int.reduceBEq, Int.reduceBNe, Nat.reduceBEq, Int.cast_ofNat_Int, decide_true, decide_false, ne_eq, eq_self_iff_true, beq_eq_false_iff_ne, bne_iff_ne, List.replicate, encNw, encPk, *]
         done)
    | ((with_reducible refine of_kSpec ?_)
       refine call_sub (ds' := [.agg (encNw nw), .agg (encPk p)]) (h2) rfl ?_ ?_
       · simp -implicitDefEqProofs only [SD, SF, SL, e_nf, reduceCtorEq, implies_true, ↓reduceIte, Nat.reduceEqDiff, Nat.reduceAdd, Nat.reduceMul, Nat.reduceSub, Nat.reduceLeDiff, Nat.reduceLT, Int.reduceLT, Int.reduceLE, Int.reduceEq, Int.reduceToNat, Int.reduceAdd, Int.reduceSub, Int.reduceNeg, Int.reduceBEq, Int.reduceBNe, Nat.reduceBEq, Int.cast_ofNat_Int, decide_true, decide_false, ne_eq, eq_self_iff_true, beq_eq_false_iff_ne, bne_iff_ne, List.replicate, encNw, encPk, *]
         done)
    | ((with_reducible refine of_kSpec ?_)
       refine call_sub (ds' := [.agg (encNw X), .agg (encNw X)]) (spec14 X X) rfl ?_ ?_
       · simp -implicitDefEqProofs only [SD, SF, SL, e_nf, reduceCtorEq, implies_true, ↓reduceIte, Nat.reduceEqDiff, Nat.reduceAdd, Nat.reduceMul, Nat.reduceSub, Nat.reduceLeDiff, Nat.reduceLT, Int.reduceLT, Int.reduceLE, Int.reduceEq, Int.reduceToNat, Int.reduceAdd, Int.reduceSub, Int.reduceNeg, Int.reduceBEq, Int.reduceBNe, Nat.reduceBEq, Int.cast_ofNat_Int, decide_true, decide_false, ne_eq, eq_self_iff_true, beq_eq_false_iff_ne, bne_iff_ne, List.replicate, encNw, encPk, *]
         done)
    | ((with_reducible refine of_kSpec ?_); refine call_fz (spec11) rfl ?_)
    | (with_reducible refine ite_in (fun _ => ?_) (fun _ => ?_))
    | (with_reducible refine ⟨fun _ => ?_, fun _ => ?_⟩)
    | (with_reducible refine And.intro ?_ ?_)
    | (with_reducible intro _)
    | (with_reducible exact is_in _)
    | (simp -implicitDefEqProofs only [SD, SF, SL, e_nf, reduceCtorEq, implies_true, ↓reduceIte, Nat.reduceEqDiff, Nat.reduceAdd, Nat.reduceMul, Nat.reduceSub, Nat.reduceLeDiff, Nat.reduceLT, Int.reduceLT, Int.reduceLE, Int.reduceEq, Int.reduceToNat, Int.reduceAdd, Int.reduceSub, Int.reduceNeg, Int.reduceBEq, Int.reduceBNe, Nat.reduceBEq, Int.cast_ofNat_Int, decide_true, decide_false, ne_eq, eq_self_iff_true, beq_eq_false_iff_ne, bne_iff_ne, List.replicate, encNw, encPk, *]))))
  all_goals (first | (simp_all; done) | (simp_all; omega))
def ac4 : AC := (.seq (.ops [⟨(some 3), none, (.box (.t 0))⟩, ⟨(some 4), none, (.box (.t 1))⟩, ⟨(some 6), none, (.mv (.c (.bool false)))⟩]) (.seq (.seq (.ops [⟨(some 9), none, (.ld true 2 (.t 3))⟩, ⟨(some 10), none, (.call false 9 [(.t 9)])⟩, ⟨(some 11), none, (.mv (.t 10))⟩, ⟨(some 12), (some (11, false)), (.ixp 4 1 (.t 4) (.c (.int .i64 0)))⟩, ⟨(some 13), (some (11, false)), (.ld false 1 (.t 12))⟩, ⟨(some 14), (some (11, false)), (.lens (.t 13))⟩, ⟨(some 15), (some (11, false)), (.bin .gtr (.t 14) (.c (.int .i64 100)))⟩, ⟨(some 16), none, (.pick (.t 11) (.c (.bool true)) (.t 15))⟩, ⟨(some 17), none, (.mv (.t 16))⟩, ⟨(some 18), (some (17, false)), (.ixp 4 1 (.t 4) (.c (.int .i64 1)))⟩, ⟨(some 19), (some (17, false)), (.ld false 1 (.t 18))⟩, ⟨(some 20), (some (17, false)), (.lens (.t 19))⟩, ⟨(some 21), (some (17, false)), (.bin .gtr (.t 20) (.c (.int .i64 100)))⟩, ⟨(some 22), none, (.pick (.t 17) (.c (.bool true)) (.t 21))⟩]) (.cond (.t 22) (.seq (.ops [⟨(some 23), none, (.call false 11 [])⟩, ⟨(some 6), none, (.mv (.t 23))⟩]) .ret) .skip)) (.seq (.draw (.q false ⟨(some 24), none, (.ld true 2 (.t 3))⟩ (.q false ⟨(some 25), none, (.ixp 4 1 (.t 4) (.c (.int .i64 0)))⟩ (.q false ⟨(some 26), none, (.ld false 1 (.t 25))⟩ (.q false ⟨(some 27), none, (.ixp 4 1 (.t 4) (.c (.int .i64 1)))⟩ (.q false ⟨(some 28), none, (.ld false 1 (.t 27))⟩ (.q false ⟨(some 29), none, (.mv (.t 2))⟩ (.q false ⟨(some 31), none, (.ld true 2 (.t 3))⟩ (.q false ⟨(some 32), none, (.ixp 4 1 (.t 4) (.c (.int .i64 0)))⟩ (.q false ⟨(some 33), none, (.ld false 1 (.t 32))⟩ (.q false ⟨(some 34), none, (.ixp 4 1 (.t 4) (.c (.int .i64 1)))⟩ (.q false ⟨(some 35), none, (.ld false 1 (.t 34))⟩ (.q false ⟨(some 36), none, (.mv (.t 2))⟩ (.alt (.op ⟨(some 30), none, (.call false 15 [(.t 24), (.t 26), (.t 28), (.t 29)])⟩ (.alt (.op ⟨(some 37), none, (.call false 16 [(.t 31), (.t 33), (.t 35), (.t 36)])⟩ (.alt (.op ⟨(some 7), none, (.alloc [.e0, .e0])⟩ (.op ⟨(some 8), none, (.alloc [.e0, .e0])⟩ (.op ⟨none, none, (.sto 2 (.t 7) (.t 30))⟩ (.op ⟨none, none, (.sto 2 (.t 8) (.t 37))⟩ .nil)))) (.op ⟨(some 8), none, (.alloc [.e0, .e0])⟩ (.op ⟨(some 7), none, (.alloc [.e0, .e0])⟩ (.op ⟨none, none, (.sto 2 (.t 7) (.t 30))⟩ (.op ⟨none, none, (.sto 2 (.t 8) (.t 37))⟩ .nil)))))) (.alt (.op ⟨(some 7), none, (.alloc [.e0, .e0])⟩ (.alt (.op ⟨(some 37), none, (.call false 16 [(.t 31), (.t 33), (.t 35), (.t 36)])⟩ (.op ⟨(some 8), none, (.alloc [.e0, .e0])⟩ (.op ⟨none, none, (.sto 2 (.t 7) (.t 30))⟩ (.op ⟨none, none, (.sto 2 (.t 8) (.t 37))⟩ .nil)))) (.op ⟨(some 8), none, (.alloc [.e0, .e0])⟩ (.op ⟨(some 37), none, (.call false 16 [(.t 31), (.t 33), (.t 35), (.t 36)])⟩ (.op ⟨none, none, (.sto 2 (.t 7) (.t 30))⟩ (.op ⟨none, none, (.sto 2 (.t 8) (.t 37))⟩ .nil)))))) (.op ⟨(some 8), none, (.alloc [.e0, .e0])⟩ (.alt (.op ⟨(some 37), none, (.call false 16 [(.t 31), (.t 33), (.t 35), (.t 36)])⟩ (.op ⟨(some 7), none, (.alloc [.e0, .e0])⟩ (.op ⟨none, none, (.sto 2 (.t 7) (.t 30))⟩ (.op ⟨none, none, (.sto 2 (.t 8) (.t 37))⟩ .nil)))) (.op ⟨(some 7), none, (.alloc [.e0, .e0])⟩ (.op ⟨(some 37), none, (.call false 16 [(.t 31), (.t 33), (.t 35), (.t 36)])⟩ (.op ⟨none, none, (.sto 2 (.t 7) (.t 30))⟩ (.op ⟨none, none, (.sto 2 (.t 8) (.t 37))⟩ .nil))))))))) (.alt (.op ⟨(some 7), none, (.alloc [.e0, .e0])⟩ (.alt (.op ⟨(some 30), none, (.call false 15 [(.t 24), (.t 26), (.t 28), (.t 29)])⟩ (.alt (.op ⟨(some 37), none, (.call false 16 [(.t 31), (.t 33), (.t 35), (.t 36)])⟩ (.op ⟨(some 8), none, (.alloc [.e0, .e0])⟩ (.op ⟨none, none, (.sto 2 (.t 7) (.t 30))⟩ (.op ⟨none, none, (.sto 2 (.t 8) (.t 37))⟩ .nil)))) (.op ⟨(some 8), none, (.alloc [.e0, .e0])⟩ (.op ⟨(some 37), none, (.call false 16 [(.t 31), (.t 33), (.t 35), (.t 36)])⟩ (.op ⟨none, none, (.sto 2 (.t 7) (.t 30))⟩ (.op ⟨none, none, (.sto 2 (.t 8) (.t 37))⟩ .nil)))))) (.op ⟨(some 8), none, (.alloc [.e0, .e0])⟩ (.op ⟨(some 30), none, (.call false 15 [(.t 24), (.t 26), (.t 28), (.t 29)])⟩ (.op ⟨(some 37), none, (.call false 16 [(.t 31), (.t 33), (.t 35), (.t 36)])⟩ (.op ⟨none, none, (.sto 2 (.t 7) (.t 30))⟩ (.op ⟨none, none, (.sto 2 (.t 8) (.t 37))⟩ .nil))))))) (.op ⟨(some 8), none, (.alloc [.e0, .e0])⟩ (.alt (.op ⟨(some 30), none, (.call false 15 [(.t 24), (.t 26), (.t 28), (.t 29)])⟩ (.alt (.op ⟨(some 37), none, (.call false 16 [(.t 31), (.t 33), (.t 35), (.t 36)])⟩ (.op ⟨(some 7), none, (.alloc [.e0, .e0])⟩ (.op ⟨none, none, (.sto 2 (.t 7) (.t 30))⟩ (.op ⟨none, none, (.sto 2 (.t 8) (.t 37))⟩ .nil)))) (.op ⟨(some 7), none, (.alloc [.e0, .e0])⟩ (.op ⟨(some 37), none, (.call false 16 [(.t 31), (.t 33), (.t 35), (.t 36)])⟩ (.op ⟨none, none, (.sto 2 (.t 7) (.t 30))⟩ (.op ⟨none, none, (.sto 2 (.t 8) (.t 37))⟩ .nil)))))) (.op ⟨(some 7), none, (.alloc [.e0, .e0])⟩ (.op ⟨(some 30), none, (.call false 15 [(.t 24), (.t 26), (.t 28), (.t 29)])⟩ (.op ⟨(some 37), none, (.call false 16 [(.t 31), (.t 33), (.t 35), (.t 36)])⟩ (.op ⟨none, none, (.sto 2 (.t 7) (.t 30))⟩ (.op ⟨none, none, (.sto 2 (.t 8) (.t 37))⟩ .nil)))))))))))))))))))))) (.seq (.draw (.q false ⟨(some 38), none, (.ld true 2 (.t 7))⟩ (.q false ⟨(some 39), none, (.ld true 2 (.t 8))⟩ (.op ⟨(some 40), none, (.call false 14 [(.t 38), (.t 39)])⟩ (.q false ⟨(some 41), none, (.mv (.t 40))⟩ (.q false ⟨(some 42), (some (41, true)), (.ld true 2 (.t 3))⟩ (.q false ⟨(some 43), (some (41, true)), (.ixp 4 1 (.t 4) (.c (.int .i64 0)))⟩ (.q false ⟨(some 44), (some (41, true)), (.ld false 1 (.t 43))⟩ (.q false ⟨(some 45), (some (41, true)), (.ixp 4 1 (.t 4) (.c (.int .i64 1)))⟩ (.q false ⟨(some 46), (some (41, true)), (.ld false 1 (.t 45))⟩ (.q false ⟨(some 48), (some (41, true)), (.ld true 2 (.t 3))⟩ (.q false ⟨(some 49), (some (41, true)), (.ixp 4 1 (.t 4) (.c (.int .i64 0)))⟩ (.q false ⟨(some 50), (some (41, true)), (.ld false 1 (.t 49))⟩ (.q false ⟨(some 51), (some (41, true)), (.ixp 4 1 (.t 4) (.c (.int .i64 1)))⟩ (.q false ⟨(some 52), (some (41, true)), (.ld false 1 (.t 51))⟩ (.op ⟨(some 47), (some (41, true)), (.call false 17 [(.t 42), (.t 44), (.t 46)])⟩ (.op ⟨(some 53), (some (41, true)), (.call false 18 [(.t 48), (.t 50), (.t 52)])⟩ (.q false ⟨(some 54), (some (41, true)), (.beq false (.t 47) (.t 53))⟩ (.q false ⟨(some 55), none, (.pick (.t 41) (.t 54) (.c (.bool false)))⟩ (.q false ⟨(some 56), none, (.mv (.t 55))⟩ (.q false ⟨(some 57), (some (56, true)), (.ld true 2 (.t 7))⟩ (.q false ⟨(some 58), (some (56, true)), (.ixp 4 1 (.t 4) (.c (.int .i64 2)))⟩ (.q false ⟨(some 59), (some (56, true)), (.ld false 1 (.t 58))⟩ (.q false ⟨(some 60), (some (56, true)), (.ixp 4 1 (.t 4) (.c (.int .i64 3)))⟩ (.q false ⟨(some 61), (some (56, true)), (.ld false 1 (.t 60))⟩ (.q false ⟨(some 63), (some (56, true)), (.ld true 2 (.t 8))⟩ (.q false ⟨(some 64), (some (56, true)), (.ixp 4 1 (.t 4) (.c (.int .i64 2)))⟩ (.q false ⟨(some 65), (some (56, true)), (.ld false 1 (.t 64))⟩ (.q false ⟨(some 66), (some (56, true)), (.ixp 4 1 (.t 4) (.c (.int .i64 3)))⟩ (.q false ⟨(some 67), (some (56, true)), (.ld false 1 (.t 66))⟩ (.op ⟨(some 62), (some (56, true)), (.call false 17 [(.t 57), (.t 59), (.t 61)])⟩ (.op ⟨(some 68), (some (56, true)), (.call false 18 [(.t 63), (.t 65), (.t 67)])⟩ (.q false ⟨(some 69), (some (56, true)), (.beq false (.t 62) (.t 68))⟩ (.q false ⟨(some 70), none, (.pick (.t 56) (.t 69) (.c (.bool false)))⟩ (.q false ⟨(some 71), none, (.mv (.t 70))⟩ (.op ⟨(some 72), (some (71, true)), (.call false 11 [])⟩ (.q false ⟨(some 73), none, (.pick (.t 71) (.t 72) (.c (.bool false)))⟩ (.q false ⟨(some 6), none, (.mv (.t 73))⟩ .nil)))))))))))))))))))))))))))))))))))))) .ret))))
theorem tr4 : Try.f4.body.bind (trCode Try.prog) = some (strip ac4) := by kernel_rfl
theorem spec4 (nw : Ntw) (a b c d : List UInt8) (iz : Bool) : Spec Try.prog 4 [.fz (.agg (encNw nw)), .fz (.agg [.str a, .str b, .str c, .str d]), .fz (.bool iz)] (.fz (.bool true)) := by
  refine spec_at (n := 71) (ars := [(.t 6)]) (ac := ac4) Try.func4 (by kernel_rfl) (by kernel_rfl) tr4 (by kernel_rfl) ?_
  unfold ac4
  by_cases hg : greatN nw = true
  · skip
    iterate 40 (all_goals (try (first
      | ((with_reducible refine of_kSpec ?_)
         refine call_sub (ds' := [.agg (encNw nw)]) (spec9 nw) rfl ?_ ?_
         · simp -implicitDefEqProofs only [SD, SF, SL, e_nf, reduceCtorEq, implies_true, ↓reduceIte, Nat.reduceEqDiff, Nat.reduceAdd, Nat.reduceMul, Nat.reduceSub, Nat.reduceLeDiff, Nat.reduceLT, Int.reduceLT, Int.reduceLE, Int.reduceEq, Int.reduceToNat, Int.reduceAdd, Int.reduceSub, Int.reduceNeg, Int.reduceBEq, Int.reduceBNe, Nat.reduceBEq, Int.cast_ofNat_Int, decide_true, decide_false, ne_eq, eq_self_iff_true, beq_eq_false_iff_ne, bne_iff_ne, List.replicate, encNw, encPk, *]
           done)
      | ((with_reducible refine of_kSpec ?_); refine call_fz (spec11) rfl ?_)
      | (with_reducible refine ite_in (fun _ => ?_) (fun _ => ?_))
      | (with_reducible refine ⟨fun _ => ?_, fun _ => ?_⟩)
      | (with_reducible refine And.intro ?_ ?_)
      | (with_reducible intro _)
      | (with_reducible exact is_in _)
      | (simp -implicitDefEqProofs only [SD, SF, SL, e_nf, reduceCtorEq, implies_true, ↓reduceIte, Nat.reduceEqDiff, Nat.reduceAdd, Nat.reduceMul, Nat.reduceSub, Nat.reduceLeDiff, Nat.reduceLT, Int.reduceLT, Int.reduceLE, Int.reduceEq, Int.reduceToNat, Int.reduceAdd, Int.reduceSub, Int.reduceNeg, Int.reduceBEq, Int.reduceBNe, Nat.reduceBEq, Int.cast_ofNat_Int, decide_true, decide_false, ne_eq, eq_self_iff_true, beq_eq_false_iff_ne, bne_iff_ne, List.replicate, encNw, encPk, *]))))
    all_goals (first | (simp_all; done) | (simp_all; omega))
  obtain ⟨hz1, hz2⟩ := greatN_sz hg
  by_cases hn : 100 < a.length ∨ 100 < b.length
  · skip
    iterate 40 (all_goals (try (first
      | ((with_reducible refine of_kSpec ?_)
         refine call_sub (ds' := [.agg (encNw nw)]) (spec9 nw) rfl ?_ ?_
         · simp -implicitDefEqProofs only [SD, SF, SL, e_nf, reduceCtorEq, implies_true, ↓reduceIte, Nat.reduceEqDiff, Nat.reduceAdd, Nat.reduceMul, Nat.reduceSub, Nat.reduceLeDiff, Nat.reduceLT, Int.reduceLT, Int.reduceLE, Int.reduceEq, Int.reduceToNat, Int.reduceAdd, Int.reduceSub, Int.reduceNeg, Int.reduceBEq, Int.reduceBNe, Nat.reduceBEq, Int.cast_ofNat_Int, decide_true, decide_false, ne_eq, eq_self_iff_true, beq_eq_false_iff_ne, bne_iff_ne, List.replicate, encNw, encPk, *]
           done)
      | ((with_reducible refine of_kSpec ?_); refine call_fz (spec11) rfl ?_)
      | (with_reducible refine ite_in (fun _ => ?_) (fun _ => ?_))
      | (with_reducible refine ⟨fun _ => ?_, fun _ => ?_⟩)
      | (with_reducible refine And.intro ?_ ?_)
      | (with_reducible intro _)
      | (with_reducible exact is_in _)
      | (simp -implicitDefEqProofs only [SD, SF, SL, e_nf, reduceCtorEq, implies_true, ↓reduceIte, Nat.reduceEqDiff, Nat.reduceAdd, Nat.reduceMul, Nat.reduceSub, Nat.reduceLeDiff, Nat.reduceLT, Int.reduceLT, Int.reduceLE, Int.reduceEq, Int.reduceToNat, Int.reduceAdd, Int.reduceSub, Int.reduceNeg, Int.reduceBEq, Int.reduceBNe, Nat.reduceBEq, Int.cast_ofNat_Int, decide_true, decide_false, ne_eq, eq_self_iff_true, beq_eq_false_iff_ne, bne_iff_ne, List.replicate, encNw, encPk, *]))))
    all_goals (first | (simp_all; done) | (simp_all; omega))
  have h1 := spec15 nw a b iz (by omega)
  have h2 := spec16 nw a b iz (by omega)
  obtain ⟨X, hr⟩ : ∃ r, r = cutR nw a b iz := ⟨_, rfl⟩
  rw [← hr] at h1 h2
  try dsimp only at h1 h2
  clear hr
  iterate 100 (all_goals (try (first
    | ((with_reducible refine of_kSpec ?_)
       refine call_sub (ds' := [.agg (encNw nw)]) (spec9 nw) rfl ?_ ?_
       · simp -implicitDefEqProofs only [SD, SF, SL, e_nf, reduceCtorEq, implies_true, ↓reduceIte, Nat.reduceEqDiff, Nat.reduceAdd, Nat.reduceMul, Nat.reduceSub, Nat.reduceLeDiff, Nat.reduceLT, Int.reduceLT, Int.reduceLE, Int.reduceEq, Int.reduceToNat, Int.reduceAdd, Int.reduceSub, Int.reduceNeg, Int.reduceBEq, Int.reduceBNe, Nat.reduceBEq, Int.cast_ofNat_Int, decide_true, decide_false, ne_eq, eq_self_iff_true, beq_eq_false_iff_ne, bne_iff_ne, List.replicate, encNw, encPk, *]
         done)
    | ((with_reducible refine of_kSpec ?_)
       refine call_sub (ds' := [.agg (encNw nw), .str a, .str b, .bool iz]) (h1) rfl ?_ ?_
       · simp -implicitDefEqProofs only [SD, SF, SL, e_nf, reduceCtorEq, implies_true, ↓reduceIte, Nat.reduceEqDiff, Nat.reduceAdd, Nat.reduceMul, Nat.reduceSub, Nat.reduceLeDiff, Nat.reduceLT, Int.reduceLT, Int.reduceLE, Int.reduceEq, Int.reduceToNat, Int.reduceAdd, Int.reduceSub, Int.reduceNeg, Int.reduceBEq, Int.reduceBNe, Nat.reduceBEq, Int.cast_ofNat_Int, decide_true, decide_false, ne_eq, eq_self_iff_true, beq_eq_false_iff_ne, bne_iff_ne, List.replicate, encNw, encPk, *]
         done)
    | ((with_reducible refine of_kSpec ?_)
       refine call_sub (ds' := [.agg (encNw nw), .str a, .str b, .bool iz]) (h2) rfl ?_ ?_
       · simp -implicitDefEqProofs only [SD, SF, SL, e_nf, reduceCtorEq, implies_true, ↓reduceIte, Nat.reduceEqDiff, Nat.reduceAdd, Nat.reduceMul, Nat.reduceSub, Nat.reduceLeDiff, Nat.reduceLT, Int.reduceLT, Int.reduceLE, Int.reduceEq, Int.reduceToNat, Int.reduceAdd, Int.reduceSub, Int.reduceNeg, Int.reduceBEq, Int.reduceBNe, Nat.reduceBEq, Int.cast_ofNat_Int, decide_true, decide_false, ne_eq, eq_self_iff_true, beq_eq_false_iff_ne, bne_iff_ne, List.replicate, encNw, encPk, *]
         done)
    | ((with_reducible refine of_kSpec ?_)
       refine call_sub (ds' := [.agg (encNw nw), .str a, .str b]) (spec17 nw a b) rfl ?_ ?_
       · simp -implicitDefEqProofs only [SD, SF, SL, e_nf, reduceCtorEq, implies_true, ↓reduceIte, Nat.reduceEqDiff, Nat.reduceAdd, Nat.reduceMul, Nat.reduceSub, Nat.reduceLeDiff, Nat.reduceLT, Int.reduceLT, Int.reduceLE, Int.reduceEq, Int.reduceToNat, Int.reduceAdd, Int.reduceSub, Int.reduceNeg, Int.reduceBEq, Int.reduceBNe, Nat.reduceBEq, Int.cast_ofNat_Int, decide_true, decide_false, ne_eq, eq_self_iff_true, beq_eq_false_iff_ne, bne_iff_ne, List.replicate, encNw, encPk, *]
         done)
    | ((with_reducible refine of_kSpec ?_)
       refine call_sub (ds' := [.agg (encNw nw), .str a, .str b]) (spec18 nw a b) rfl ?_ ?_
       · simp -implicitDefEqProofs only [SD, SF, SL, e_nf, reduceCtorEq, implies_true, ↓reduceIte, Nat.reduceEqDiff, Nat.reduceAdd, Nat.reduceMul, Nat.reduceSub, Nat.reduceLeDiff, Nat.reduceLT, Int.reduceLT, Int.reduceLE, Int.reduceEq, Int.reduceToNat, Int.reduceAdd, Int.reduceSub, Int.reduceNeg, Int.reduceBEq, Int.reduceBNe, Nat.reduceBEq, Int.cast_ofNat_Int, decide_true, decide_false, ne_eq, eq_self_iff_true, beq_eq_false_iff_ne, bne_iff_ne, List.replicate, encNw, encPk, *]
         done)
    | ((with_reducible refine of_kSpec ?_)
       refine call_sub (ds' := [.agg (encNw X), .str c, .str d]) (spec17 X c d) rfl ?_ ?_
       · simp -implicitDefEqProofs only [SD, SF, SL, e_nf, reduceCtorEq, implies_true, ↓reduceIte, Nat.reduceEqDiff, Nat.reduceAdd, Nat.reduceMul, Nat.reduceSub, Nat.reduceLeDiff, Nat.reduceLT, Int.reduceLT, Int.reduceLE, Int.reduceEq, Int.reduceToNat, Int.reduceAdd, Int.reduceSub, Int.reduceNeg, Int.reduceBEq, Int.reduceBNe, Nat.reduceBEq, Int.cast_ofNat_Int, decide_true, decide_false, ne_eq, eq_self_iff_true, beq_eq_false_iff_ne, bne_iff_ne, List.replicate, encNw, encPk, *]
         done)
    | ((with_reducible refine of_kSpec ?_)
       refine call_sub (ds' := [.agg (encNw X), .str c, .str d]) (spec18 X c d) rfl ?_ ?_
       · simp -implicitDefEqProofs only [SD, SF, SL, e_nf, reduceCtorEq, implies_true, ↓reduceIte, Nat.reduceEqDiff, Nat.reduceAdd, Nat.reduceMul, Nat.reduceSub, Nat.reduceLeDiff, Nat.reduceLT, Int.reduceLT, Int.reduceLE, Int.reduceEq, Int.reduceToNat, Int.reduceAdd, Int.reduceSub, Int.reduceNeg, Int.reduceBEq, Int.reduceBNe, Nat.reduceBEq, Int.cast_ofNat_Int, decide_true, decide_false, ne_eq, eq_self_iff_true, beq_eq_false_iff_ne, bne_iff_ne, List.replicate, encNw, encPk, *]
         done)
    | ((with_reducible refine of_kSpec ?_)
       refine call_sub (ds' := [.agg (encNw X), .agg (encNw X)]) (spec14 X X) rfl ?_ ?_
       · simp -implicitDefEqProofs only [SD, SF, SL, e_nf, reduceCtorEq, implies_true, ↓reduceIte, Nat.reduceEqDiff, Nat.reduceAdd, Nat.reduceMul, Nat.reduceSub, Nat.reduceLeDiff, Nat.reduceLT, Int.reduceLT, Int.reduceLE, Int.reduceEq, Int.reduceToNat, Int.reduceAdd, Int.reduceSub, Int.reduceNeg, Int.reduceBEq, Int.reduceBNe, Nat.reduceBEq, Int.cast_ofNat_Int, decide_true, decide_false, ne_eq, eq_self_iff_true, beq_eq_false_iff_ne, bne_iff_ne, List.replicate, encNw, encPk, *]
         done)
    | ((with_reducible refine of_kSpec ?_); refine call_fz (spec11) rfl ?_)
    | (with_reducible refine ite_in (fun _ => ?_) (fun _ => ?_))
    | (with_reducible refine ⟨fun _ => ?_, fun _ => ?_⟩)
    | (with_reducible refine And.intro ?_ ?_)
    | (with_reducible intro _)
    | (with_reducible exact is_in _)
    | (simp -implicitDefEqProofs only [SD, SF, SL, e_nf, reduceCtorEq, implies_true, ↓reduceIte, Nat.reduceEqDiff, Nat.reduceAdd, Nat.reduceMul, Nat.reduceSub, Nat.reduceLeDiff, Nat.reduceLT, Int.reduceLT, Int.reduceLE, Int.reduceEq, Int.reduceToNat, Int.reduceAdd, Int.reduceSub, Int.reduceNeg, Int.reduceBEq, Int.reduceBNe, Nat.reduceBEq, Int.cast_ofNat_Int, decide_true, decide_false, ne_eq, eq_self_iff_true, beq_eq_false_iff_ne, bne_iff_ne, List.replicate, encNw, encPk, beq_self_eq_true, *]))))
  all_goals (first | (simp_all; done) | (simp_all; omega))
def ac5 : AC := (.seq (.ops [⟨(some 2), none, (.box (.t 0))⟩, ⟨(some 4), none, (.mv (.c (.bool false)))⟩]) (.seq (.seq (.ops [⟨(some 11), none, (.ld true 2 (.t 2))⟩, ⟨(some 12), none, (.call false 9 [(.t 11)])⟩]) (.cond (.t 12) (.seq (.ops [⟨(some 13), none, (.call false 11 [])⟩, ⟨(some 4), none, (.mv (.t 13))⟩]) .ret) .skip)) (.seq (.ops [⟨(some 15), none, (.ld true 2 (.t 2))⟩, ⟨(some 16), none, (.mv (.t 1))⟩, ⟨(some 17), none, (.call false 19 [(.t 15), (.t 16)])⟩, ⟨(some 14), none, (.mv (.t 17))⟩, ⟨(some 18), none, (.ext (.t 14) 0)⟩, ⟨(some 19), none, (.ext (.t 14) 1)⟩, ⟨(some 20), none, (.ext (.t 14) 2)⟩, ⟨(some 5), none, (.alloc [.e0, .e0])⟩, ⟨(some 6), none, (.alloc [(.str []), (.str []), (.int .i64 0), (.int .i64 0), (.str []), .e0, .e0, .e0, (.str []), (.int .i64 0)])⟩, ⟨none, none, (.sto 2 (.t 5) (.t 18))⟩, ⟨none, none, (.sto 10 (.t 6) (.t 19))⟩, ⟨(some 7), none, (.mv (.t 20))⟩]) (.seq (.ops [⟨(some 22), none, (.ld true 2 (.t 2))⟩, ⟨(some 23), none, (.mv (.t 1))⟩, ⟨(some 24), none, (.call false 20 [(.t 22), (.t 23)])⟩, ⟨(some 21), none, (.mv (.t 24))⟩, ⟨(some 25), none, (.ext (.t 21) 0)⟩, ⟨(some 26), none, (.ext (.t 21) 1)⟩, ⟨(some 27), none, (.ext (.t 21) 2)⟩, ⟨(some 8), none, (.alloc [.e0, .e0])⟩, ⟨(some 9), none, (.alloc [(.str []), (.str []), (.int .i64 0), (.int .i64 0), (.str []), .e0, .e0, .e0, (.str []), (.int .i64 0)])⟩, ⟨none, none, (.sto 2 (.t 8) (.t 25))⟩, ⟨none, none, (.sto 10 (.t 9) (.t 26))⟩, ⟨(some 10), none, (.mv (.t 27))⟩]) (.seq (.ops [⟨(some 28), none, (.ld true 2 (.t 5))⟩, ⟨(some 29), none, (.ld true 2 (.t 8))⟩, ⟨(some 30), none, (.call false 14 [(.t 28), (.t 29)])⟩, ⟨(some 31), none, (.mv (.t 30))⟩, ⟨(some 32), (some (31, true)), (.ld true 10 (.t 6))⟩, ⟨(some 33), (some (31, true)), (.ld true 10 (.t 9))⟩, ⟨(some 34), (some (31, true)), (.call false 21 [(.t 32), (.t 33)])⟩, ⟨(some 35), none, (.pick (.t 31) (.t 34) (.c (.bool false)))⟩, ⟨(some 36), none, (.mv (.t 35))⟩, ⟨(some 37), (some (36, true)), (.mv (.t 7))⟩, ⟨(some 38), (some (36, true)), (.mv (.t 10))⟩, ⟨(some 39), (some (36, true)), (.beq false (.t 37) (.t 38))⟩, ⟨(some 40), none, (.pick (.t 36) (.t 39) (.c (.bool false)))⟩, ⟨(some 41), none, (.mv (.t 40))⟩, ⟨(some 42), (some (41, true)), (.call false 11 [])⟩, ⟨(some 43), none, (.pick (.t 41) (.t 42) (.c (.bool false)))⟩, ⟨(some 4), none, (.mv (.t 43))⟩]) .ret)))))
theorem tr5 : Try.f5.body.bind (trCode Try.prog) = some (strip ac5) := by kernel_rfl
theorem spec5 (nw : Ntw) (i : Int) : Spec Try.prog 5 [.fz (.agg (encNw nw)), .fz (.int .i64 i)] (.fz (.bool true)) := by
  refine spec_at (n := 42) (ars := [(.t 4)]) (ac := ac5) Try.func5 (by kernel_rfl) (by kernel_rfl) tr5 (by kernel_rfl) ?_
  unfold ac5
  by_cases hg : greatN nw = true
  · skip
    iterate 40 (all_goals (try (first
      | ((with_reducible refine of_kSpec ?_)
         refine call_sub (ds' := [.agg (encNw nw)]) (spec9 nw) rfl ?_ ?_
         · simp -implicitDefEqProofs only [SD, SF, SL, e_nf, reduceCtorEq, implies_true, ↓reduceIte, Nat.reduceEqDiff, Nat.reduceAdd, Nat.reduceMul, Nat.reduceSub, Nat.reduceLeDiff, Nat.reduceLT, Int.reduceLT, Int.reduceLE, Int.reduceEq, Int.reduceToNat, Int.reduceAdd, Int.reduceSub, Int.reduceNeg, Int.reduceBEq, Int.reduceBNe, Nat.reduceBEq, Int.cast_ofNat_Int, decide_true, decide_false, ne_eq, eq_self_iff_true, beq_eq_false_iff_ne, bne_iff_ne, List.replicate, encNw, encPk, *]
           done)
      | ((with_reducible refine of_kSpec ?_); refine call_fz (spec11) rfl ?_)
      | (with_reducible refine ite_in (fun _ => ?_) (fun _ => ?_))
      | (with_reducible refine ⟨fun _ => ?_, fun _ => ?_⟩)
      | (with_reducible refine And.intro ?_ ?_)
      | (with_reducible intro _)
      | (with_reducible exact is_in _)
      | (simp -implicitDefEqProofs only [SD, SF, SL, e_nf, reduceCtorEq, implies_true, ↓reduceIte, Nat.reduceEqDiff, Nat.reduceAdd, Nat.reduceMul, Nat.reduceSub, Nat.reduceLeDiff, Nat.reduceLT, Int.reduceLT, Int.reduceLE, Int.reduceEq, Int.reduceToNat, Int.reduceAdd, Int.reduceSub, Int.reduceNeg, Int.reduceBEq, Int.reduceBNe, Nat.reduceBEq, Int.cast_ofNat_Int, decide_true, decide_false, ne_eq, eq_self_iff_true, beq_eq_false_iff_ne, bne_iff_ne, List.replicate, encNw, encPk, *]))))
    all_goals (first | (simp_all; done) | (simp_all; omega))
  obtain ⟨hz1, hz2⟩ := greatN_sz hg
  have h1 := spec19 nw i (by omega)
  have h2 := spec20 nw i (by omega)
  obtain ⟨⟨⟨X, q⟩, k⟩, hr⟩ : ∃ r, r = nextR nw i := ⟨_, rfl⟩
  rw [← hr] at h1 h2
  try dsimp only at h1 h2
  clear hr
  iterate 100 (all_goals (try (first
    | ((with_reducible refine of_kSpec ?_)
       refine call_sub (ds' := [.agg (encNw nw)]) (spec9 nw) rfl ?_ ?_
       · simp -implicitDefEqProofs only [SD, SF, SL, e_nf, reduceCtorEq, implies_true, ↓reduceIte, Nat.reduceEqDiff, Nat.reduceAdd, Nat.reduceMul, Nat.reduceSub, Nat.reduceLeDiff, Nat.reduceLT, Int.reduceLT, Int.reduceLE, Int.reduceEq, Int.reduceToNat, Int.reduceAdd, Int.reduceSub, Int.reduceNeg, Int.reduceBEq, Int.reduceBNe, Nat.reduceBEq, Int.cast_ofNat_Int, decide_true, decide_false, ne_eq, eq_self_iff_true, beq_eq_false_iff_ne, bne_iff_ne, List.replicate, encNw, encPk, *]
         done)
    | ((with_reducible refine of_kSpec ?_)
       refine call_sub (ds' := [.agg (encNw nw), .int .i64 i]) (h1) rfl ?_ ?_
       · simp -implicitDefEqProofs only [SD, SF, SL, e_nf, reduceCtorEq, implies_true, ↓reduceIte, Nat.reduceEqDiff, Nat.reduceAdd, Nat.reduceMul, Nat.reduceSub, Nat.reduceLeDiff, Nat.reduceLT, Int.reduceLT, Int.reduceLE, Int.reduceEq, Int.reduceToNat, Int.reduceAdd, Int.reduceSub, Int.reduceNeg, Int.reduceBEq, Int.reduceBNe, Nat.reduceBEq, Int.cast_ofNat_Int, decide_true, decide_false, ne_eq, eq_self_iff_true, beq_eq_false_iff_ne, bne_iff_ne, List.replicate, encNw, encPk, *]
         done)
    | ((with_reducible refine of_kSpec ?_)
       refine call_sub (ds' := [.agg (encNw nw), .int .i64 i]) (h2) rfl ?_ ?_
       · simp -implicitDefEqProofs only [SD, SF, SL, e_nf, reduceCtorEq, implies_true, ↓reduceIte, Nat.reduceEqDiff, Nat.reduceAdd, Nat.reduceMul, Nat.reduceSub, Nat.reduceLeDiff, Nat.reduceLT, Int.reduceLT, Int.reduceLE, Int.reduceEq, Int.reduceToNat, Int.reduceAdd, Int.reduceSub, Int.reduceNeg, Int.reduceBEq, Int.reduceBNe, Nat.reduceBEq, Int.cast_ofNat_Int, decide_true, decide_false, ne_eq, eq_self_iff_true, beq_eq_false_iff_ne, bne_iff_ne, List.replicate, encNw, encPk, *]
         done)
    | ((with_reducible refine of_kSpec ?_)
       refine call_sub (ds' := [.agg (encNw X), .agg (encNw X)]) (spec14 X X) rfl ?_ ?_
       · simp -implicitDefEqProofs only [SD, SF, SL, e_nf, reduceCtorEq, implies_true, ↓reduceIte, Nat.reduceEqDiff, Nat.reduceAdd, Nat.reduceMul, Nat.reduceSub, Nat.reduceLeDiff, Nat.reduceLT, Int.reduceLT, Int.reduceLE, Int.reduceEq, Int.reduceToNat, Int.reduceAdd, Int.reduceSub, Int.reduceNeg, Int.reduceBEq, Int.reduceBNe, Nat.reduceBEq, Int.cast_ofNat_Int, decide_true, decide_false, ne_eq, eq_self_iff_true, beq_eq_false_iff_ne, bne_iff_ne, List.replicate, encNw, encPk, *]
         done)
    | ((with_reducible refine of_kSpec ?_)
       refine call_sub (ds' := [.agg (encPk q), .agg (encPk q)]) (spec21 q q) rfl ?_ ?_
       · simp -implicitDefEqProofs only [SD, SF, SL, e_nf, reduceCtorEq, implies_true, ↓reduceIte, Nat.reduceEqDiff, Nat.reduceAdd, Nat.reduceMul, Nat.reduceSub, Nat.reduceLeDiff, Nat.reduceLT, Int.reduceLT, Int.reduceLE, Int.reduceEq, Int.reduceToNat, Int.reduceAdd, Int.reduceSub, Int.reduceNeg, Int.reduceBEq, Int.reduceBNe, Nat.reduceBEq, Int.cast_ofNat_Int, decide_true, decide_false, ne_eq, eq_self_iff_true, beq_eq_false_iff_ne, bne_iff_ne, List.replicate, encNw, encPk, *]
         done)
    | ((with_reducible refine of_kSpec ?_); refine call_fz (spec11) rfl ?_)
    | (with_reducible refine ite_in (fun _ => ?_) (fun _ => ?_))
    | (with_reducible refine ⟨fun _ => ?_, fun _ => ?_⟩)
    | (with_reducible refine And.intro ?_ ?_)
    | (with_reducible intro _)
    | (with_reducible exact is_in _)
    | (simp -implicitDefEqProofs only [SD, SF, SL, e_nf, reduceCtorEq, implies_true, ↓reduceIte, Nat.reduceEqDiff, Nat.reduceAdd, Nat.reduceMul, Nat.reduceSub, Nat.reduceLeDiff, Nat.reduceLT, Int.reduceLT, Int.reduceLE, Int.reduceEq, Int.reduceToNat, Int.reduceAdd, Int.reduceSub, Int.reduceNeg, Int.reduceBEq, Int.reduceBNe, Nat.reduceBEq, Int.cast_ofNat_Int, decide_true, decide_false, ne_eq, eq_self_iff_true, beq_eq_false_iff_ne, bne_iff_ne, List.replicate, encNw, encPk, beq_self_eq_true, *]))))
  all_goals (first | (simp_all; done) | (simp_all; omega))
def ac6 : AC := (.seq (.ops [⟨(some 2), none, (.box (.t 0))⟩, ⟨(some 4), none, (.mv (.c (.bool false)))⟩]) (.seq (.seq (.ops [⟨(some 5), none, (.ld true 2 (.t 2))⟩, ⟨(some 6), none, (.call false 9 [(.t 5)])⟩]) (.cond (.t 6) (.seq (.ops [⟨(some 7), none, (.call false 11 [])⟩, ⟨(some 4), none, (.mv (.t 7))⟩]) .ret) .skip)) (.seq (.draw (.q false ⟨(some 8), none, (.ld true 2 (.t 2))⟩ (.q false ⟨(some 9), none, (.mv (.t 1))⟩ (.q false ⟨(some 11), none, (.ld true 2 (.t 2))⟩ (.q false ⟨(some 12), none, (.mv (.t 1))⟩ (.op ⟨(some 10), none, (.call false 22 [(.t 8), (.t 9)])⟩ (.op ⟨(some 13), none, (.call false 23 [(.t 11), (.t 12)])⟩ (.op ⟨(some 14), none, (.call false 14 [(.t 10), (.t 13)])⟩ (.q false ⟨(some 15), none, (.mv (.t 14))⟩ (.q false ⟨(some 16), (some (15, true)), (.ld true 2 (.t 2))⟩ (.q false ⟨(some 17), (some (15, true)), (.mv (.t 1))⟩ (.q false ⟨(some 19), (some (15, true)), (.ld true 2 (.t 2))⟩ (.q false ⟨(some 20), (some (15, true)), (.mv (.t 1))⟩ (.op ⟨(some 18), (some (15, true)), (.call false 24 [(.t 16), (.t 17)])⟩ (.op ⟨(some 21), (some (15, true)), (.call false 25 [(.t 19), (.t 20)])⟩ (.op ⟨(some 22), (some (15, true)), (.call false 14 [(.t 18), (.t 21)])⟩ (.q false ⟨(some 23), none, (.pick (.t 15) (.t 22) (.c (.bool false)))⟩ (.q false ⟨(some 24), none, (.mv (.t 23))⟩ (.op ⟨(some 25), (some (24, true)), (.call false 11 [])⟩ (.q false ⟨(some 26), none, (.pick (.t 24) (.t 25) (.c (.bool false)))⟩ (.q false ⟨(some 4), none, (.mv (.t 26))⟩ .nil))))))))))))))))))))) .ret)))
theorem tr6 : Try.f6.body.bind (trCode Try.prog) = some (strip ac6) := by kernel_rfl
theorem spec6 (nw : Ntw) (i : Int) : Spec Try.prog 6 [.fz (.agg (encNw nw)), .fz (.int .i64 i)] (.fz (.bool true)) := by
  refine spec_at (n := 25) (ars := [(.t 4)]) (ac := ac6) Try.func6 (by kernel_rfl) (by kernel_rfl) tr6 (by kernel_rfl) ?_
  unfold ac6
  by_cases hg : greatN nw = true
  · skip
    iterate 40 (all_goals (try (first
      | ((with_reducible refine of_kSpec ?_)
         refine call_sub (ds' := [.agg (encNw nw)]) (spec9 nw) rfl ?_ ?_
         · simp -implicitDefEqProofs only [SD, SF, SL, e_nf, reduceCtorEq, implies_true, ↓reduceIte, Nat.reduceEqDiff, Nat.reduceAdd, Nat.reduceMul, Nat.reduceSub, Nat.reduceLeDiff, Nat.reduceLT, Int.reduceLT, Int.reduceLE, Int.reduceEq, Int.reduceToNat, Int.reduceAdd, Int.reduceSub, Int.reduceNeg, Int.reduceBEq, Int.reduceBNe, Nat.reduceBEq, Int.cast_ofNat_Int, decide_true, decide_false, ne_eq, eq_self_iff_true, beq_eq_false_iff_ne, bne_iff_ne, List.replicate, encNw, encPk, *]
           done)
      | ((with_reducible refine of_kSpec ?_); refine call_fz (spec11) rfl ?_)
      | (with_reducible refine ite_in (fun _ => ?_) (fun _ => ?_))
      | (with_reducible refine ⟨fun _ => ?_, fun _ => ?_⟩)
      | (with_reducible refine And.intro ?_ ?_)
      | (with_reducible intro _)
      | (with_reducible exact is_in _)
      | (simp -implicitDefEqProofs only [SD, SF, SL, e_nf, reduceCtorEq, implies_true, ↓reduceIte, Nat.reduceEqDiff, Nat.reduceAdd, Nat.reduceMul, Nat.reduceSub, Nat.reduceLeDiff, Nat.reduceLT, Int.reduceLT, Int.reduceLE, Int.reduceEq, Int.reduceToNat, Int.reduceAdd, Int.reduceSub, Int.reduceNeg, Int.reduceBEq, Int.reduceBNe, Nat.reduceBEq, Int.cast_ofNat_Int, decide_true, decide_false, ne_eq, eq_self_iff_true, beq_eq_false_iff_ne, bne_iff_ne, List.replicate, encNw, encPk, *]))))
    all_goals (first | (simp_all; done) | (simp_all; omega))
  obtain ⟨hz1, hz2⟩ := greatN_sz hg
  have h1 := spec22 nw i (by omega)
  have h2 := spec23 nw i (by omega)
  have h3 := spec24 nw i (by omega)
  have h4 := spec25 nw i (by omega)
  obtain ⟨X, hr⟩ : ∃ r, r = dropR nw i := ⟨_, rfl⟩
  rw [← hr] at h1 h2
  try dsimp only at h1 h2
  clear hr
  obtain ⟨Y, hr⟩ : ∃ r, r = copyR nw i := ⟨_, rfl⟩
  rw [← hr] at h3 h4
  try dsimp only at h3 h4
  clear hr
  iterate 100 (all_goals (try (first
    | ((with_reducible refine of_kSpec ?_)
       refine call_sub (ds' := [.agg (encNw nw)]) (spec9 nw) rfl ?_ ?_
       · simp -implicitDefEqProofs only [SD, SF, SL, e_nf, reduceCtorEq, implies_true, ↓reduceIte, Nat.reduceEqDiff, Nat.reduceAdd, Nat.reduceMul, Nat.reduceSub, Nat.reduceLeDiff, Nat.reduceLT, Int.reduceLT, Int.reduceLE, Int.reduceEq, Int.reduceToNat, Int.reduceAdd, Int.reduceSub, Int.reduceNeg, Int.reduceBEq, Int.reduceBNe, Nat.reduceBEq, Int.cast_ofNat_Int, decide_true, decide_false, ne_eq, eq_self_iff_true, beq_eq_false_iff_ne, bne_iff_ne, List.replicate, encNw, encPk, *]
         done)
    | ((with_reducible refine of_kSpec ?_)
       refine call_sub (ds' := [.agg (encNw nw), .int .i64 i]) (h1) rfl ?_ ?_
       · simp -implicitDefEqProofs only [SD, SF, SL, e_nf, reduceCtorEq, implies_true, ↓reduceIte, Nat.reduceEqDiff, Nat.reduceAdd, Nat.reduceMul, Nat.reduceSub, Nat.reduceLeDiff, Nat.reduceLT, Int.reduceLT, Int.reduceLE, Int.reduceEq, Int.reduceToNat, Int.reduceAdd, Int.reduceSub, Int.reduceNeg, Int.reduceBEq, Int.reduceBNe, Nat.reduceBEq, Int.cast_ofNat_Int, decide_true, decide_false, ne_eq, eq_self_iff_true, beq_eq_false_iff_ne, bne_iff_ne, List.replicate, encNw, encPk, *]
         done)
    | ((with_reducible refine of_kSpec ?_)
       refine call_sub (ds' := [.agg (encNw nw), .int .i64 i]) (h2) rfl ?_ ?_
       · simp -implicitDefEqProofs only [SD, SF, SL, e_nf, reduceCtorEq, implies_true, ↓reduceIte, Nat.reduceEqDiff, Nat.reduceAdd, Nat.reduceMul, Nat.reduceSub, Nat.reduceLeDiff, Nat.reduceLT, Int.reduceLT, Int.reduceLE, Int.reduceEq, Int.reduceToNat, Int.reduceAdd, Int.reduceSub, Int.reduceNeg, Int.reduceBEq, Int.reduceBNe, Nat.reduceBEq, Int.cast_ofNat_Int, decide_true, decide_false, ne_eq, eq_self_iff_true, beq_eq_false_iff_ne, bne_iff_ne, List.replicate, encNw, encPk, *]
         done)
    | ((with_reducible refine of_kSpec ?_)
       refine call_sub (ds' := [.agg (encNw nw), .int .i64 i]) (h3) rfl ?_ ?_
       · simp -implicitDefEqProofs only [SD, SF, SL, e_nf, reduceCtorEq, implies_true, ↓reduceIte, Nat.reduceEqDiff, Nat.reduceAdd, Nat.reduceMul, Nat.reduceSub, Nat.reduceLeDiff, Nat.reduceLT, Int.reduceLT, Int.reduceLE, Int.reduceEq, Int.reduceToNat, Int.reduceAdd, Int.reduceSub, Int.reduceNeg, Int.reduceBEq, Int.reduceBNe, Nat.reduceBEq, Int.cast_ofNat_Int, decide_true, decide_false, ne_eq, eq_self_iff_true, beq_eq_false_iff_ne, bne_iff_ne, List.replicate, encNw, encPk, *]
         done)
    | ((with_reducible refine of_kSpec ?_)
       refine call_sub (ds' := [.agg (encNw nw), .int .i64 i]) (h4) rfl ?_ ?_
       · simp -implicitDefEqProofs only [SD, SF, SL, e_nf, reduceCtorEq, implies_true, ↓reduceIte, Nat.reduceEqDiff, Nat.reduceAdd, Nat.reduceMul, Nat.reduceSub, Nat.reduceLeDiff, Nat.reduceLT, Int.reduceLT, Int.reduceLE, Int.reduceEq, Int.reduceToNat, Int.reduceAdd, Int.reduceSub, Int.reduceNeg, Int.reduceBEq, Int.reduceBNe, Nat.reduceBEq, Int.cast_ofNat_Int, decide_true, decide_false, ne_eq, eq_self_iff_true, beq_eq_false_iff_ne, bne_iff_ne, List.replicate, encNw, encPk, *]
         done)
    | ((with_reducible refine of_kSpec ?_)
       refine call_sub (ds' := [.agg (encNw X), .agg (encNw X)]) (spec14 X X) rfl ?_ ?_
       · simp -implicitDefEqProofs only [SD, SF, SL, e_nf, reduceCtorEq, implies_true, ↓reduceIte, Nat.reduceEqDiff, Nat.reduceAdd, Nat.reduceMul, Nat.reduceSub, Nat.reduceLeDiff, Nat.reduceLT, Int.reduceLT, Int.reduceLE, Int.reduceEq, Int.reduceToNat, Int.reduceAdd, Int.reduceSub, Int.reduceNeg, Int.reduceBEq, Int.reduceBNe, Nat.reduceBEq, Int.cast_ofNat_Int, decide_true, decide_false, ne_eq, eq_self_iff_true, beq_eq_false_iff_ne, bne_iff_ne, List.replicate, encNw, encPk, *]
         done)
    | ((with_reducible refine of_kSpec ?_)
       refine call_sub (ds' := [.agg (encNw Y), .agg (encNw Y)]) (spec14 Y Y) rfl ?_ ?_
       · simp -implicitDefEqProofs only [SD, SF, SL, e_nf, reduceCtorEq, implies_true, ↓reduceIte, Nat.reduceEqDiff, Nat.reduceAdd, Nat.reduceMul, Nat.reduceSub, Nat.reduceLeDiff, Nat.reduceLT, Int.reduceLT, Int.reduceLE, Int.reduceEq, Int.reduceToNat, Int.reduceAdd, Int.reduceSub, Int.reduceNeg, Int.reduceBEq, Int.reduceBNe, Nat.reduceBEq, Int.cast_ofNat_Int, decide_true, decide_false, ne_eq, eq_self_iff_true, beq_eq_false_iff_ne, bne_iff_ne, List.replicate, encNw, encPk, *]
         done)
    | ((with_reducible refine of_kSpec ?_); refine call_fz (spec11) rfl ?_)
    | (with_reducible refine ite_in (fun _ => ?_) (fun _ => ?_))
    | (with_reducible refine ⟨fun _ => ?_, fun _ => ?_⟩)
    | (with_reducible refine And.intro ?_ ?_)
    | (with_reducible intro _)
    | (with_reducible exact is_in _)
    | (simp -implicitDefEqProofs only [SD, SF, SL, e_nf, reduceCtorEq, implies_true, ↓reduceIte, Nat.reduceEqDiff, Nat.reduceAdd, Nat.reduceMul, Nat.reduceSub, Nat.reduceLeDiff, Nat.reduceLT, Int.reduceLT, Int.reduceLE, Int.reduceEq, Int.reduceToNat, Int.reduceAdd, Int.reduceSub, Int.reduceNeg, Int.reduceBEq, Int.reduceBNe, Nat.reduceBEq, Int.cast_ofNat_Int, decide_true, decide_false, ne_eq, eq_self_iff_true, beq_eq_false_iff_ne, bne_iff_ne, List.replicate, encNw, encPk, *]))))
  all_goals (first | (simp_all; done) | (simp_all; omega))

end Go.Proofs.Ytklbfafdioeehaa.E
