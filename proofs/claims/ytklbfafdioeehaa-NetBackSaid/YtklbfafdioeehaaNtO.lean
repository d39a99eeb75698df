/-
  NtO: walks of functions of the program at data level.
-/
import Derived.Test.YtklbfafdioeehaaProg
import Derived.Test.YtklbfafdioeehaaEngZ
import Derived.Test.YtklbfafdioeehaaNtN
import Derived.Test.YtklbfafdioeehaaNtJ
import Derived.KernelRfl
set_option linter.unusedVariables false
set_option linter.unusedSimpArgs false
namespace Go.Proofs.Ytklbfafdioeehaa.E
open Go
set_option maxHeartbeats 4000000
set_option maxRecDepth 100000
set_option linter.unusedSimpArgs false
set_option linter.unusedVariables false
attribute [local congr] c_wp c_ops c_op c_opS c_run c_runS c_dt c_seq c_blk c_loop c_S c_put c_bind c_mv c_pick c_nt c_ng c_bin c_binI c_binS c_beq c_B c_eqa c_hd c_cells c_blkK c_box c_vec c_mp c_nck c_mks c_appn c_mkm c_mput c_mlk c_mrm c_take c_ld c_ldF c_cellsK c_st c_fld c_fldv c_ix c_ixp c_ixv c_ixs c_sub c_subs c_len c_lens c_src c_dst c_ow c_app c_ext c_mm c_conv c_str c_isn c_fill c_rows c_boxo c_frz c_frzO c_frzA c_frzV c_spec c_specO c_opsP c_opP c_runP c_specP c_Z c_qretP c_fz c_fn c_gv c_cond c_res1 c_resL c_ret c_qret c_ite c_unr c_nx c_bk c_cut c_is
attribute [local irreducible] dwp

def P1 : Pk := ⟨[97], [98], 0, 1, [], [], [], [], [], 0⟩
def P2 : Pk := ⟨[98], [97], 0, 2, [], [], [], [], [], 0⟩
def P3 : Pk := ⟨[97], [98], 0, 0, [], [], [], [], [], 0⟩
def M1 : Ntw := ⟨[P1], []⟩
def M2 : Ntw := ⟨[P1, P2], []⟩
def MC : Ntw := ⟨[P1, P2], [([97], [98])]⟩
def MX : Ntw := ⟨[P1, P2, P1], []⟩
def MD : Ntw := ⟨[P2], []⟩
theorem live1 : sendR e0Nw P1 = (M1, 0) := by rfl
theorem live2 : sendR M1 P2 = (M2, 0) := by rfl
theorem live3 : nextR M2 (-1) = ((M1, P2), true) := by rfl
theorem live4 : cutR M2 [98] [97] true = MC := by rfl
theorem live5 : sendR MC P3 = (e0Nw, 30) := by rfl
theorem live6 : copyR M2 0 = MX := by rfl
theorem live7 : openB MC.cuts [97] [98] = false := by rfl
theorem live8 : cutR MC [97] [98] false = M2 := by rfl
theorem live9 : openB M2.cuts [98] [97] = true := by rfl
theorem live10 : dropR M2 0 = MD := by rfl
def ac11 : AC := (.seq (.ops [⟨(some 0), none, (.mv (.c (.bool false)))⟩]) (.seq (.ops [⟨(some 12), none, (.build [.e0, .e0] [])⟩, ⟨(some 13), none, (.build [(.str []), (.str []), (.int .i64 0), (.int .i64 0), (.str []), .e0, .e0, .e0, (.str []), (.int .i64 0)] [(0, (1, (.c (.str [97])))), (1, (1, (.c (.str [98])))), (3, (1, (.c (.int .i64 1))))])⟩, ⟨(some 14), none, (.call false 12 [(.t 12), (.t 13)])⟩, ⟨(some 11), none, (.mv (.t 14))⟩, ⟨(some 15), none, (.ext (.t 11) 0)⟩, ⟨(some 16), none, (.ext (.t 11) 1)⟩, ⟨(some 1), none, (.alloc [.e0, .e0])⟩, ⟨none, none, (.sto 2 (.t 1) (.t 15))⟩, ⟨(some 2), none, (.mv (.t 16))⟩]) (.seq (.ops [⟨(some 18), none, (.ld true 2 (.t 1))⟩, ⟨(some 19), none, (.build [(.str []), (.str []), (.int .i64 0), (.int .i64 0), (.str []), .e0, .e0, .e0, (.str []), (.int .i64 0)] [(0, (1, (.c (.str [98])))), (1, (1, (.c (.str [97])))), (3, (1, (.c (.int .i64 2))))])⟩, ⟨(some 20), none, (.call false 12 [(.t 18), (.t 19)])⟩, ⟨(some 17), none, (.mv (.t 20))⟩, ⟨(some 21), none, (.ext (.t 17) 0)⟩, ⟨(some 22), none, (.ext (.t 17) 1)⟩, ⟨none, none, (.sto 2 (.t 1) (.t 21))⟩, ⟨(some 3), none, (.mv (.t 22))⟩]) (.seq (.ops [⟨(some 24), none, (.ld true 2 (.t 1))⟩, ⟨(some 25), none, (.call false 19 [(.t 24), (.c (.int .i64 (-1)))])⟩, ⟨(some 23), none, (.mv (.t 25))⟩, ⟨(some 26), none, (.ext (.t 23) 0)⟩, ⟨(some 27), none, (.ext (.t 23) 1)⟩, ⟨(some 28), none, (.ext (.t 23) 2)⟩, ⟨(some 4), none, (.alloc [.e0, .e0])⟩, ⟨(some 5), none, (.alloc [(.str []), (.str []), (.int .i64 0), (.int .i64 0), (.str []), .e0, .e0, .e0, (.str []), (.int .i64 0)])⟩, ⟨none, none, (.sto 2 (.t 4) (.t 26))⟩, ⟨none, none, (.sto 10 (.t 5) (.t 27))⟩, ⟨(some 6), none, (.mv (.t 28))⟩]) (.seq (.ops [⟨(some 29), none, (.ld true 2 (.t 1))⟩, ⟨(some 30), none, (.call false 15 [(.t 29), (.c (.str [98])), (.c (.str [97])), (.c (.bool true))])⟩, ⟨(some 7), none, (.alloc [.e0, .e0])⟩, ⟨none, none, (.sto 2 (.t 7) (.t 30))⟩]) (.seq (.ops [⟨(some 32), none, (.ld true 2 (.t 7))⟩, ⟨(some 33), none, (.build [(.str []), (.str []), (.int .i64 0), (.int .i64 0), (.str []), .e0, .e0, .e0, (.str []), (.int .i64 0)] [(0, (1, (.c (.str [97])))), (1, (1, (.c (.str [98]))))])⟩, ⟨(some 34), none, (.call false 12 [(.t 32), (.t 33)])⟩, ⟨(some 31), none, (.mv (.t 34))⟩, ⟨(some 35), none, (.ext (.t 31) 0)⟩, ⟨(some 36), none, (.ext (.t 31) 1)⟩, ⟨(some 8), none, (.alloc [.e0, .e0])⟩, ⟨none, none, (.sto 2 (.t 8) (.t 35))⟩, ⟨(some 9), none, (.mv (.t 36))⟩]) (.seq (.ops [⟨(some 37), none, (.ld true 2 (.t 1))⟩, ⟨(some 38), none, (.call false 24 [(.t 37), (.c (.int .i64 0))])⟩, ⟨(some 10), none, (.alloc [.e0, .e0])⟩, ⟨none, none, (.sto 2 (.t 10) (.t 38))⟩]) (.seq (.ops [⟨(some 39), none, (.mv (.t 2))⟩, ⟨(some 40), none, (.bin .eql (.t 39) (.c (.int .i64 0)))⟩, ⟨(some 41), none, (.mv (.t 40))⟩, ⟨(some 42), (some (41, true)), (.mv (.t 3))⟩, ⟨(some 43), (some (41, true)), (.bin .eql (.t 42) (.c (.int .i64 0)))⟩, ⟨(some 44), none, (.pick (.t 41) (.t 43) (.c (.bool false)))⟩, ⟨(some 45), none, (.mv (.t 44))⟩, ⟨(some 46), (some (45, true)), (.fld 0 (.t 4))⟩, ⟨(some 47), (some (45, true)), (.ld false 1 (.t 46))⟩, ⟨(some 48), (some (45, true)), (.len (.t 47))⟩, ⟨(some 49), (some (45, true)), (.bin .eql (.t 48) (.c (.int .i64 1)))⟩, ⟨(some 50), none, (.pick (.t 45) (.t 49) (.c (.bool false)))⟩, ⟨(some 51), none, (.mv (.t 50))⟩, ⟨(some 52), (some (51, true)), (.fld 3 (.t 5))⟩, ⟨(some 53), (some (51, true)), (.ld false 1 (.t 52))⟩, ⟨(some 54), (some (51, true)), (.bin .eql (.t 53) (.c (.int .i64 2)))⟩, ⟨(some 55), none, (.pick (.t 51) (.t 54) (.c (.bool false)))⟩, ⟨(some 56), none, (.mv (.t 55))⟩, ⟨(some 57), (some (56, true)), (.mv (.t 6))⟩, ⟨(some 58), none, (.pick (.t 56) (.t 57) (.c (.bool false)))⟩, ⟨(some 59), none, (.mv (.t 58))⟩, ⟨(some 60), (some (59, true)), (.mv (.t 9))⟩, ⟨(some 61), (some (59, true)), (.bin .eql (.t 60) (.c (.int .i64 30)))⟩, ⟨(some 62), none, (.pick (.t 59) (.t 61) (.c (.bool false)))⟩, ⟨(some 63), none, (.mv (.t 62))⟩, ⟨(some 64), (some (63, true)), (.ld true 2 (.t 7))⟩, ⟨(some 65), (some (63, true)), (.call false 17 [(.t 64), (.c (.str [97])), (.c (.str [98]))])⟩, ⟨(some 66), (some (63, true)), (.nt (.t 65))⟩, ⟨(some 67), none, (.pick (.t 63) (.t 66) (.c (.bool false)))⟩, ⟨(some 68), none, (.mv (.t 67))⟩, ⟨(some 69), (some (68, true)), (.ld true 2 (.t 7))⟩, ⟨(some 70), (some (68, true)), (.call false 15 [(.t 69), (.c (.str [97])), (.c (.str [98])), (.c (.bool false))])⟩, ⟨(some 71), (some (68, true)), (.call false 17 [(.t 70), (.c (.str [98])), (.c (.str [97]))])⟩, ⟨(some 72), none, (.pick (.t 68) (.t 71) (.c (.bool false)))⟩, ⟨(some 73), none, (.mv (.t 72))⟩, ⟨(some 74), (some (73, true)), (.fld 0 (.t 10))⟩, ⟨(some 75), (some (73, true)), (.ld false 1 (.t 74))⟩, ⟨(some 76), (some (73, true)), (.len (.t 75))⟩, ⟨(some 77), (some (73, true)), (.bin .eql (.t 76) (.c (.int .i64 3)))⟩, ⟨(some 78), none, (.pick (.t 73) (.t 77) (.c (.bool false)))⟩, ⟨(some 79), none, (.mv (.t 78))⟩, ⟨(some 80), (some (79, true)), (.fld 0 (.t 10))⟩, ⟨(some 81), (some (79, true)), (.ld false 1 (.t 80))⟩, ⟨(some 82), (some (79, true)), (.ix 10 (.t 81) (.c (.int .i64 2)))⟩, ⟨(some 83), (some (79, true)), (.fld 3 (.t 82))⟩, ⟨(some 84), (some (79, true)), (.ld false 1 (.t 83))⟩, ⟨(some 85), (some (79, true)), (.bin .eql (.t 84) (.c (.int .i64 1)))⟩, ⟨(some 86), none, (.pick (.t 79) (.t 85) (.c (.bool false)))⟩, ⟨(some 87), none, (.mv (.t 86))⟩, ⟨(some 88), (some (87, true)), (.ld true 2 (.t 1))⟩, ⟨(some 89), (some (87, true)), (.call false 22 [(.t 88), (.c (.int .i64 0))])⟩, ⟨(some 90), (some (87, true)), (.fldv false 0 1 (.t 89))⟩, ⟨(some 91), (some (87, true)), (.len (.t 90))⟩, ⟨(some 92), (some (87, true)), (.bin .eql (.t 91) (.c (.int .i64 1)))⟩, ⟨(some 93), none, (.pick (.t 87) (.t 92) (.c (.bool false)))⟩, ⟨(some 0), none, (.mv (.t 93))⟩]) .ret))))))))
theorem tr11 : Try.f11.body.bind (trCode Try.prog) = some (strip ac11) := by kernel_rfl
theorem spec11  : Spec Try.prog 11 [] (.fz (.bool true)) := by
  refine spec_at (n := 94) (ars := [(.t 0)]) (ac := ac11) Try.func11 (by kernel_rfl) (by kernel_rfl) tr11 (by kernel_rfl) ?_
  unfold ac11
  have h1 := spec12 e0Nw P1
  rw [live1] at h1
  have h2 := spec12 M1 P2
  rw [live2] at h2
  have h3 := spec19 M2 (-1) (by decide)
  rw [live3] at h3
  have h4 := spec15 M2 [98] [97] true (by decide)
  rw [live4] at h4
  have h5 := spec12 MC P3
  rw [live5] at h5
  have h6 := spec24 M2 0 (by decide)
  rw [live6] at h6
  have h7 := spec17 MC [97] [98]
  rw [live7] at h7
  have h8 := spec15 MC [97] [98] false (by decide)
  rw [live8] at h8
  have h9 := spec17 M2 [98] [97]
  rw [live9] at h9
  have h10 := spec22 M2 0 (by decide)
  rw [live10] at h10
  have hr := row_at (l := MX.packets) (k := 2) (by decide)
  have hr2 : MX.packets.getD 2 zPk = P1 := rfl
  rw [hr2] at hr
  simp only [encPk] at hr
  have l1 : M1.packets.length = 1 := rfl
  have l2 : MX.packets.length = 3 := rfl
  have l3 : MD.packets.length = 1 := rfl
  have l4 : P2.n = 2 := rfl
  have l5 : P1.n = 1 := rfl
  iterate 140 (all_goals (try (first
    | ((with_reducible refine of_kSpec ?_)
       refine call_sub (ds' := [.agg (encNw e0Nw), .agg (encPk P1)]) (h1) rfl ?_ ?_
       · simp -implicitDefEqProofs only [SD, SF, SL, e_nf, reduceCtorEq, implies_true, ↓reduceIte, Nat.reduceEqDiff, Nat.reduceAdd, Nat.reduceMul, Nat.reduceSub, Nat.reduceLeDiff, Nat.reduceLT, Int.reduceLT, Int.reduceLE, Int.reduceEq, Int.reduceToNat, Int.reduceAdd, Int.reduceSub, Int.reduceNeg, Int.reduceBEq, Int.reduceBNe, Nat.reduceBEq, Int.cast_ofNat_Int, decide_true, decide_false, ne_eq, eq_self_iff_true, beq_eq_false_iff_ne, bne_iff_ne, List.replicate, encNw, encPk, e0Nw, P1, List.map_nil, *]
         done)
    | ((with_reducible refine of_kSpec ?_)
       refine call_sub (ds' := [.agg (encNw M1), .agg (encPk P2)]) (h2) rfl ?_ ?_
       · simp -implicitDefEqProofs only [SD, SF, SL, e_nf, reduceCtorEq, implies_true, ↓reduceIte, Nat.reduceEqDiff, Nat.reduceAdd, Nat.reduceMul, Nat.reduceSub, Nat.reduceLeDiff, Nat.reduceLT, Int.reduceLT, Int.reduceLE, Int.reduceEq, Int.reduceToNat, Int.reduceAdd, Int.reduceSub, Int.reduceNeg, Int.reduceBEq, Int.reduceBNe, Nat.reduceBEq, Int.cast_ofNat_Int, decide_true, decide_false, ne_eq, eq_self_iff_true, beq_eq_false_iff_ne, bne_iff_ne, List.replicate, encNw, encPk, P2, List.map_nil, *]
         done)
    | ((with_reducible refine of_kSpec ?_)
       refine call_sub (ds' := [.agg (encNw M2), .int .i64 (-1)]) (h3) rfl ?_ ?_
       · simp -implicitDefEqProofs only [SD, SF, SL, e_nf, reduceCtorEq, implies_true, ↓reduceIte, Nat.reduceEqDiff, Nat.reduceAdd, Nat.reduceMul, Nat.reduceSub, Nat.reduceLeDiff, Nat.reduceLT, Int.reduceLT, Int.reduceLE, Int.reduceEq, Int.reduceToNat, Int.reduceAdd, Int.reduceSub, Int.reduceNeg, Int.reduceBEq, Int.reduceBNe, Nat.reduceBEq, Int.cast_ofNat_Int, decide_true, decide_false, ne_eq, eq_self_iff_true, beq_eq_false_iff_ne, bne_iff_ne, List.replicate, encNw, encPk, *]
         done)
    | ((with_reducible refine of_kSpec ?_)
       refine call_sub (ds' := [.agg (encNw M2), .str [98], .str [97], .bool true]) (h4) rfl ?_ ?_
       · simp -implicitDefEqProofs only [SD, SF, SL, e_nf, reduceCtorEq, implies_true, ↓reduceIte, Nat.reduceEqDiff, Nat.reduceAdd, Nat.reduceMul, Nat.reduceSub, Nat.reduceLeDiff, Nat.reduceLT, Int.reduceLT, Int.reduceLE, Int.reduceEq, Int.reduceToNat, Int.reduceAdd, Int.reduceSub, Int.reduceNeg, Int.reduceBEq, Int.reduceBNe, Nat.reduceBEq, Int.cast_ofNat_Int, decide_true, decide_false, ne_eq, eq_self_iff_true, beq_eq_false_iff_ne, bne_iff_ne, List.replicate, encNw, encPk, *]
         done)
    | ((with_reducible refine of_kSpec ?_)
       refine call_sub (ds' := [.agg (encNw MC), .agg (encPk P3)]) (h5) rfl ?_ ?_
       · simp -implicitDefEqProofs only [SD, SF, SL, e_nf, reduceCtorEq, implies_true, ↓reduceIte, Nat.reduceEqDiff, Nat.reduceAdd, Nat.reduceMul, Nat.reduceSub, Nat.reduceLeDiff, Nat.reduceLT, Int.reduceLT, Int.reduceLE, Int.reduceEq, Int.reduceToNat, Int.reduceAdd, Int.reduceSub, Int.reduceNeg, Int.reduceBEq, Int.reduceBNe, Nat.reduceBEq, Int.cast_ofNat_Int, decide_true, decide_false, ne_eq, eq_self_iff_true, beq_eq_false_iff_ne, bne_iff_ne, List.replicate, encNw, encPk, P3, List.map_nil, *]
         done)
    | ((with_reducible refine of_kSpec ?_)
       refine call_sub (ds' := [.agg (encNw M2), .int .i64 0]) (h6) rfl ?_ ?_
       · simp -implicitDefEqProofs only [SD, SF, SL, e_nf, reduceCtorEq, implies_true, ↓reduceIte, Nat.reduceEqDiff, Nat.reduceAdd, Nat.reduceMul, Nat.reduceSub, Nat.reduceLeDiff, Nat.reduceLT, Int.reduceLT, Int.reduceLE, Int.reduceEq, Int.reduceToNat, Int.reduceAdd, Int.reduceSub, Int.reduceNeg, Int.reduceBEq, Int.reduceBNe, Nat.reduceBEq, Int.cast_ofNat_Int, decide_true, decide_false, ne_eq, eq_self_iff_true, beq_eq_false_iff_ne, bne_iff_ne, List.replicate, encNw, encPk, *]
         done)
    | ((with_reducible refine of_kSpec ?_)
       refine call_sub (ds' := [.agg (encNw MC), .str [97], .str [98]]) (h7) rfl ?_ ?_
       · simp -implicitDefEqProofs only [SD, SF, SL, e_nf, reduceCtorEq, implies_true, ↓reduceIte, Nat.reduceEqDiff, Nat.reduceAdd, Nat.reduceMul, Nat.reduceSub, Nat.reduceLeDiff, Nat.reduceLT, Int.reduceLT, Int.reduceLE, Int.reduceEq, Int.reduceToNat, Int.reduceAdd, Int.reduceSub, Int.reduceNeg, Int.reduceBEq, Int.reduceBNe, Nat.reduceBEq, Int.cast_ofNat_Int, decide_true, decide_false, ne_eq, eq_self_iff_true, beq_eq_false_iff_ne, bne_iff_ne, List.replicate, encNw, encPk, *]
         done)
    | ((with_reducible refine of_kSpec ?_)
       refine call_sub (ds' := [.agg (encNw MC), .str [97], .str [98], .bool false]) (h8) rfl ?_ ?_
       · simp -implicitDefEqProofs only [SD, SF, SL, e_nf, reduceCtorEq, implies_true, ↓reduceIte, Nat.reduceEqDiff, Nat.reduceAdd, Nat.reduceMul, Nat.reduceSub, Nat.reduceLeDiff, Nat.reduceLT, Int.reduceLT, Int.reduceLE, Int.reduceEq, Int.reduceToNat, Int.reduceAdd, Int.reduceSub, Int.reduceNeg, Int.reduceBEq, Int.reduceBNe, Nat.reduceBEq, Int.cast_ofNat_Int, decide_true, decide_false, ne_eq, eq_self_iff_true, beq_eq_false_iff_ne, bne_iff_ne, List.replicate, encNw, encPk, *]
         done)
    | ((with_reducible refine of_kSpec ?_)
       refine call_sub (ds' := [.agg (encNw M2), .str [98], .str [97]]) (h9) rfl ?_ ?_
       · simp -implicitDefEqProofs only [SD, SF, SL, e_nf, reduceCtorEq, implies_true, ↓reduceIte, Nat.reduceEqDiff, Nat.reduceAdd, Nat.reduceMul, Nat.reduceSub, Nat.reduceLeDiff, Nat.reduceLT, Int.reduceLT, Int.reduceLE, Int.reduceEq, Int.reduceToNat, Int.reduceAdd, Int.reduceSub, Int.reduceNeg, Int.reduceBEq, Int.reduceBNe, Nat.reduceBEq, Int.cast_ofNat_Int, decide_true, decide_false, ne_eq, eq_self_iff_true, beq_eq_false_iff_ne, bne_iff_ne, List.replicate, encNw, encPk, *]
         done)
    | ((with_reducible refine of_kSpec ?_)
       refine call_sub (ds' := [.agg (encNw M2), .int .i64 0]) (h10) rfl ?_ ?_
       · simp -implicitDefEqProofs only [SD, SF, SL, e_nf, reduceCtorEq, implies_true, ↓reduceIte, Nat.reduceEqDiff, Nat.reduceAdd, Nat.reduceMul, Nat.reduceSub, Nat.reduceLeDiff, Nat.reduceLT, Int.reduceLT, Int.reduceLE, Int.reduceEq, Int.reduceToNat, Int.reduceAdd, Int.reduceSub, Int.reduceNeg, Int.reduceBEq, Int.reduceBNe, Nat.reduceBEq, Int.cast_ofNat_Int, decide_true, decide_false, ne_eq, eq_self_iff_true, beq_eq_false_iff_ne, bne_iff_ne, List.replicate, encNw, encPk, *]
         done)
    | (with_reducible refine ite_in (fun _ => ?_) (fun _ => ?_))
    | (with_reducible refine ⟨fun _ => ?_, fun _ => ?_⟩)
    | (with_reducible refine And.intro ?_ ?_)
    | (with_reducible intro _)
    | (with_reducible exact is_in _)
    | (simp -implicitDefEqProofs only [SD, SF, SL, e_nf, reduceCtorEq, implies_true, ↓reduceIte, Nat.reduceEqDiff, Nat.reduceAdd, Nat.reduceMul, Nat.reduceSub, Nat.reduceLeDiff, Nat.reduceLT, Int.reduceLT, Int.reduceLE, Int.reduceEq, Int.reduceToNat, Int.reduceAdd, Int.reduceSub, Int.reduceNeg, Int.reduceBEq, Int.reduceBNe, Nat.reduceBEq, Int.cast_ofNat_Int, decide_true, decide_false, ne_eq, eq_self_iff_true, beq_eq_false_iff_ne, bne_iff_ne, List.replicate, encNw, encPk, *]))))
  all_goals (first | (simp_all; done) | decide)

end Go.Proofs.Ytklbfafdioeehaa.E
