/-
  RbF: walks of functions of the program at data level.
-/
import Derived.Test.YthackanfbemabaaProg
import Derived.Test.YthackanfbemabaaEngZ
import Derived.Test.YthackanfbemabaaRbE
import Derived.KernelRfl
set_option linter.unusedVariables false
set_option linter.unusedSimpArgs false
namespace Go.Proofs.Ythackanfbemabaa.E
open Go
set_option maxHeartbeats 4000000
set_option maxRecDepth 100000
set_option linter.unusedSimpArgs false
set_option linter.unusedVariables false
attribute [local congr] c_wp c_ops c_op c_opS c_run c_runS c_dt c_seq c_blk c_loop c_S c_put c_bind c_mv c_pick c_nt c_ng c_bin c_binI c_binS c_beq c_B c_eqa c_hd c_cells c_blkK c_box c_vec c_take c_ld c_ldF c_cellsK c_st c_fld c_fldv c_ix c_ixp c_ixv c_ixs c_sub c_subs c_len c_lens c_src c_dst c_ow c_app c_ext c_mm c_conv c_str c_isn c_fill c_rows c_boxo c_frz c_frzO c_frzA c_frzV c_spec c_specO c_fz c_fn c_gv c_cond c_res1 c_resL c_ret c_qret c_ite c_unr c_nx c_bk c_cut c_is
attribute [local irreducible] dwp
def ac35 : AC := (.seq (.ops [⟨(some 3), none, (.box (.t 0))⟩, ⟨(some 4), none, (.box (.t 1))⟩, ⟨(some 6), none, (.mv (.c (.int .i64 0)))⟩]) (.seq (.ops [⟨(some 23), none, (.ld true 9 (.t 3))⟩, ⟨(some 24), none, (.mv (.t 2))⟩, ⟨(some 25), none, (.call false 26 [(.t 23), (.t 24)])⟩, ⟨(some 7), none, (.alloc [(.int .i64 0)])⟩, ⟨none, none, (.sto 1 (.t 7) (.t 25))⟩]) (.seq (.ops [⟨(some 26), none, (.mkfn 46 [(.t 7)])⟩, ⟨(some 8), none, (.mv (.t 26))⟩]) (.seq (.draw (.q false ⟨(some 27), none, (.ld true 9 (.t 3))⟩ (.q false ⟨(some 29), none, (.ld true 9 (.t 4))⟩ (.alt (.op ⟨(some 28), none, (.call false 47 [(.t 27)])⟩ (.alt (.op ⟨(some 30), none, (.call false 47 [(.t 29)])⟩ (.alt (.op ⟨(some 9), none, (.alloc [(.int .i64 0), (.int .i64 0), (.int .i64 0), (.int .i64 0), (.int .i64 0), (.int .i64 0), (.int .i64 0)])⟩ (.op ⟨(some 10), none, (.alloc [(.int .i64 0), (.int .i64 0), (.int .i64 0), (.int .i64 0), (.int .i64 0), (.int .i64 0), (.int .i64 0)])⟩ (.op ⟨none, none, (.sto 7 (.t 9) (.t 28))⟩ (.op ⟨none, none, (.sto 7 (.t 10) (.t 30))⟩ .nil)))) (.op ⟨(some 10), none, (.alloc [(.int .i64 0), (.int .i64 0), (.int .i64 0), (.int .i64 0), (.int .i64 0), (.int .i64 0), (.int .i64 0)])⟩ (.op ⟨(some 9), none, (.alloc [(.int .i64 0), (.int .i64 0), (.int .i64 0), (.int .i64 0), (.int .i64 0), (.int .i64 0), (.int .i64 0)])⟩ (.op ⟨none, none, (.sto 7 (.t 9) (.t 28))⟩ (.op ⟨none, none, (.sto 7 (.t 10) (.t 30))⟩ .nil)))))) (.alt (.op ⟨(some 9), none, (.alloc [(.int .i64 0), (.int .i64 0), (.int .i64 0), (.int .i64 0), (.int .i64 0), (.int .i64 0), (.int .i64 0)])⟩ (.alt (.op ⟨(some 30), none, (.call false 47 [(.t 29)])⟩ (.op ⟨(some 10), none, (.alloc [(.int .i64 0), (.int .i64 0), (.int .i64 0), (.int .i64 0), (.int .i64 0), (.int .i64 0), (.int .i64 0)])⟩ (.op ⟨none, none, (.sto 7 (.t 9) (.t 28))⟩ (.op ⟨none, none, (.sto 7 (.t 10) (.t 30))⟩ .nil)))) (.op ⟨(some 10), none, (.alloc [(.int .i64 0), (.int .i64 0), (.int .i64 0), (.int .i64 0), (.int .i64 0), (.int .i64 0), (.int .i64 0)])⟩ (.op ⟨(some 30), none, (.call false 47 [(.t 29)])⟩ (.op ⟨none, none, (.sto 7 (.t 9) (.t 28))⟩ (.op ⟨none, none, (.sto 7 (.t 10) (.t 30))⟩ .nil)))))) (.op ⟨(some 10), none, (.alloc [(.int .i64 0), (.int .i64 0), (.int .i64 0), (.int .i64 0), (.int .i64 0), (.int .i64 0), (.int .i64 0)])⟩ (.alt (.op ⟨(some 30), none, (.call false 47 [(.t 29)])⟩ (.op ⟨(some 9), none, (.alloc [(.int .i64 0), (.int .i64 0), (.int .i64 0), (.int .i64 0), (.int .i64 0), (.int .i64 0), (.int .i64 0)])⟩ (.op ⟨none, none, (.sto 7 (.t 9) (.t 28))⟩ (.op ⟨none, none, (.sto 7 (.t 10) (.t 30))⟩ .nil)))) (.op ⟨(some 9), none, (.alloc [(.int .i64 0), (.int .i64 0), (.int .i64 0), (.int .i64 0), (.int .i64 0), (.int .i64 0), (.int .i64 0)])⟩ (.op ⟨(some 30), none, (.call false 47 [(.t 29)])⟩ (.op ⟨none, none, (.sto 7 (.t 9) (.t 28))⟩ (.op ⟨none, none, (.sto 7 (.t 10) (.t 30))⟩ .nil))))))))) (.alt (.op ⟨(some 9), none, (.alloc [(.int .i64 0), (.int .i64 0), (.int .i64 0), (.int .i64 0), (.int .i64 0), (.int .i64 0), (.int .i64 0)])⟩ (.alt (.op ⟨(some 28), none, (.call false 47 [(.t 27)])⟩ (.alt (.op ⟨(some 30), none, (.call false 47 [(.t 29)])⟩ (.op ⟨(some 10), none, (.alloc [(.int .i64 0), (.int .i64 0), (.int .i64 0), (.int .i64 0), (.int .i64 0), (.int .i64 0), (.int .i64 0)])⟩ (.op ⟨none, none, (.sto 7 (.t 9) (.t 28))⟩ (.op ⟨none, none, (.sto 7 (.t 10) (.t 30))⟩ .nil)))) (.op ⟨(some 10), none, (.alloc [(.int .i64 0), (.int .i64 0), (.int .i64 0), (.int .i64 0), (.int .i64 0), (.int .i64 0), (.int .i64 0)])⟩ (.op ⟨(some 30), none, (.call false 47 [(.t 29)])⟩ (.op ⟨none, none, (.sto 7 (.t 9) (.t 28))⟩ (.op ⟨none, none, (.sto 7 (.t 10) (.t 30))⟩ .nil)))))) (.op ⟨(some 10), none, (.alloc [(.int .i64 0), (.int .i64 0), (.int .i64 0), (.int .i64 0), (.int .i64 0), (.int .i64 0), (.int .i64 0)])⟩ (.op ⟨(some 28), none, (.call false 47 [(.t 27)])⟩ (.op ⟨(some 30), none, (.call false 47 [(.t 29)])⟩ (.op ⟨none, none, (.sto 7 (.t 9) (.t 28))⟩ (.op ⟨none, none, (.sto 7 (.t 10) (.t 30))⟩ .nil))))))) (.op ⟨(some 10), none, (.alloc [(.int .i64 0), (.int .i64 0), (.int .i64 0), (.int .i64 0), (.int .i64 0), (.int .i64 0), (.int .i64 0)])⟩ (.alt (.op ⟨(some 28), none, (.call false 47 [(.t 27)])⟩ (.alt (.op ⟨(some 30), none, (.call false 47 [(.t 29)])⟩ (.op ⟨(some 9), none, (.alloc [(.int .i64 0), (.int .i64 0), (.int .i64 0), (.int .i64 0), (.int .i64 0), (.int .i64 0), (.int .i64 0)])⟩ (.op ⟨none, none, (.sto 7 (.t 9) (.t 28))⟩ (.op ⟨none, none, (.sto 7 (.t 10) (.t 30))⟩ .nil)))) (.op ⟨(some 9), none, (.alloc [(.int .i64 0), (.int .i64 0), (.int .i64 0), (.int .i64 0), (.int .i64 0), (.int .i64 0), (.int .i64 0)])⟩ (.op ⟨(some 30), none, (.call false 47 [(.t 29)])⟩ (.op ⟨none, none, (.sto 7 (.t 9) (.t 28))⟩ (.op ⟨none, none, (.sto 7 (.t 10) (.t 30))⟩ .nil)))))) (.op ⟨(some 9), none, (.alloc [(.int .i64 0), (.int .i64 0), (.int .i64 0), (.int .i64 0), (.int .i64 0), (.int .i64 0), (.int .i64 0)])⟩ (.op ⟨(some 28), none, (.call false 47 [(.t 27)])⟩ (.op ⟨(some 30), none, (.call false 47 [(.t 29)])⟩ (.op ⟨none, none, (.sto 7 (.t 9) (.t 28))⟩ (.op ⟨none, none, (.sto 7 (.t 10) (.t 30))⟩ .nil)))))))))))) (.seq (.seq (.ops [⟨(some 31), none, (.mv (.c (.int .i64 0)))⟩]) (.block 0 (.loop (.seq (.ops [⟨(some 32), none, (.bin .lss (.t 31) (.c (.int .i64 7)))⟩]) (.seq (.cond (.t 32) .skip (.exit 0)) (.seq (.block 1 (.seq (.ops [⟨(some 33), none, (.mv (.t 31))⟩, ⟨(some 11), none, (.mv (.t 33))⟩]) (.seq (.draw (.q false ⟨(some 34), none, (.mv (.t 8))⟩ (.q false ⟨(some 35), none, (.mv (.t 11))⟩ (.q false ⟨(some 36), none, (.ixp 7 1 (.t 9) (.t 35))⟩ (.q false ⟨(some 37), none, (.ld false 1 (.t 36))⟩ (.q false ⟨(some 38), none, (.mv (.t 11))⟩ (.q false ⟨(some 39), none, (.ixp 7 1 (.t 10) (.t 38))⟩ (.q false ⟨(some 40), none, (.ld false 1 (.t 39))⟩ (.op ⟨(some 41), none, (.callv (.t 34) [(.t 37), (.t 40)])⟩ .nil))))))))) (.cond (.t 41) (.seq (.ops [⟨(some 6), none, (.mv (.c (.int .i64 20)))⟩]) .ret) .skip)))) (.ops [⟨(some 42), none, (.bin .add (.t 31) (.c (.int .i64 1)))⟩, ⟨(some 31), none, (.mv (.t 42))⟩]))))))) (.seq (.seq (.ops [⟨(some 43), none, (.fld 1 (.t 3))⟩, ⟨(some 44), none, (.ld false 1 (.t 43))⟩, ⟨(some 45), none, (.fld 1 (.t 4))⟩, ⟨(some 46), none, (.ld false 1 (.t 45))⟩, ⟨(some 47), none, (.build [.e0, .e0] [(0, (1, (.t 44))), (1, (1, (.t 46)))])⟩, ⟨(some 48), none, (.mv (.c (.int .i64 0)))⟩]) (.block 2 (.loop (.seq (.ops [⟨(some 49), none, (.bin .lss (.t 48) (.c (.int .i64 2)))⟩]) (.seq (.cond (.t 49) .skip (.exit 2)) (.seq (.block 3 (.seq (.ops [⟨(some 50), none, (.ixv false 2 1 (.t 47) (.t 48))⟩, ⟨(some 13), none, (.mv (.t 50))⟩]) (.seq (.ops [⟨(some 51), none, (.mv (.t 13))⟩, ⟨(some 52), none, (.len (.t 51))⟩, ⟨(some 53), none, (.mv (.c (.int .i64 0)))⟩]) (.block 4 (.loop (.seq (.ops [⟨(some 54), none, (.bin .lss (.t 53) (.t 52))⟩]) (.seq (.cond (.t 54) .skip (.exit 4)) (.seq (.block 5 (.seq (.ops [⟨(some 55), none, (.ix 2 (.t 51) (.t 53))⟩, ⟨(some 56), none, (.ld true 2 (.t 55))⟩, ⟨(some 15), none, (.alloc [(.int .i64 0), (.int .i64 0)])⟩, ⟨none, none, (.sto 2 (.t 15) (.t 56))⟩]) (.seq (.draw (.q false ⟨(some 57), none, (.mv (.t 8))⟩ (.q false ⟨(some 58), none, (.ld true 9 (.t 3))⟩ (.q false ⟨(some 59), none, (.fld 0 (.t 15))⟩ (.q false ⟨(some 60), none, (.ld false 1 (.t 59))⟩ (.q false ⟨(some 62), none, (.ld true 9 (.t 4))⟩ (.q false ⟨(some 63), none, (.fld 0 (.t 15))⟩ (.q false ⟨(some 64), none, (.ld false 1 (.t 63))⟩ (.op ⟨(some 61), none, (.call false 28 [(.t 58), (.t 60)])⟩ (.op ⟨(some 65), none, (.call false 28 [(.t 62), (.t 64)])⟩ (.op ⟨(some 66), none, (.callv (.t 57) [(.t 61), (.t 65)])⟩ .nil))))))))))) (.cond (.t 66) (.seq (.ops [⟨(some 6), none, (.mv (.c (.int .i64 20)))⟩]) .ret) .skip)))) (.ops [⟨(some 67), none, (.bin .add (.t 53) (.c (.int .i64 1)))⟩, ⟨(some 53), none, (.mv (.t 67))⟩]))))))))) (.ops [⟨(some 68), none, (.bin .add (.t 48) (.c (.int .i64 1)))⟩, ⟨(some 48), none, (.mv (.t 68))⟩]))))))) (.seq (.ops [⟨(some 16), none, (.mv (.c (.bool false)))⟩]) (.seq .skip (.seq (.seq (.ops [⟨(some 69), none, (.fld 0 (.t 3))⟩, ⟨(some 70), none, (.ld false 1 (.t 69))⟩, ⟨(some 71), none, (.fld 0 (.t 4))⟩, ⟨(some 72), none, (.ld false 1 (.t 71))⟩, ⟨(some 73), none, (.build [.e0, .e0] [(0, (1, (.t 70))), (1, (1, (.t 72)))])⟩, ⟨(some 74), none, (.mv (.c (.int .i64 0)))⟩]) (.block 6 (.loop (.seq (.ops [⟨(some 75), none, (.bin .lss (.t 74) (.c (.int .i64 2)))⟩]) (.seq (.cond (.t 75) .skip (.exit 6)) (.seq (.block 7 (.seq (.ops [⟨(some 76), none, (.ixv false 2 1 (.t 73) (.t 74))⟩, ⟨(some 18), none, (.mv (.t 76))⟩]) (.seq (.ops [⟨(some 77), none, (.mv (.t 18))⟩, ⟨(some 78), none, (.len (.t 77))⟩, ⟨(some 79), none, (.mv (.c (.int .i64 0)))⟩]) (.block 8 (.loop (.seq (.ops [⟨(some 80), none, (.bin .lss (.t 79) (.t 78))⟩]) (.seq (.cond (.t 80) .skip (.exit 8)) (.seq (.block 9 (.seq (.ops [⟨(some 81), none, (.ix 2 (.t 77) (.t 79))⟩, ⟨(some 82), none, (.ld true 2 (.t 81))⟩, ⟨(some 20), none, (.alloc [(.str []), (.int .i64 0)])⟩, ⟨none, none, (.sto 2 (.t 20) (.t 82))⟩]) (.seq (.draw (.q false ⟨(some 83), none, (.ld true 9 (.t 3))⟩ (.q false ⟨(some 84), none, (.fld 0 (.t 20))⟩ (.q false ⟨(some 85), none, (.ld false 1 (.t 84))⟩ (.q false ⟨(some 87), none, (.ld true 9 (.t 4))⟩ (.q false ⟨(some 88), none, (.fld 0 (.t 20))⟩ (.q false ⟨(some 89), none, (.ld false 1 (.t 88))⟩ (.op ⟨(some 86), none, (.call false 26 [(.t 83), (.t 85)])⟩ (.op ⟨(some 90), none, (.call false 26 [(.t 87), (.t 89)])⟩ (.q false ⟨(some 21), none, (.mv (.t 86))⟩ (.q false ⟨(some 22), none, (.mv (.t 90))⟩ .nil))))))))))) (.seq (.ops [⟨(some 91), none, (.mv (.t 8))⟩, ⟨(some 92), none, (.mv (.t 21))⟩, ⟨(some 93), none, (.mv (.t 22))⟩, ⟨(some 94), none, (.callv (.t 91) [(.t 92), (.t 93)])⟩, ⟨(some 95), none, (.mv (.t 94))⟩, ⟨(some 96), (some (95, false)), (.mv (.t 21))⟩, ⟨(some 97), (some (95, false)), (.mv (.t 22))⟩, ⟨(some 98), (some (95, false)), (.bin .neq (.t 96) (.t 97))⟩, ⟨(some 99), (some (95, false)), (.mv (.t 98))⟩, ⟨(some 100), (some (99, true)), (.fld 0 (.t 20))⟩, ⟨(some 101), (some (99, true)), (.ld false 1 (.t 100))⟩, ⟨(some 102), (some (99, true)), (.mv (.t 2))⟩, ⟨(some 103), (some (99, true)), (.bin .neq (.t 101) (.t 102))⟩, ⟨(some 104), (some (95, false)), (.pick (.t 99) (.t 103) (.c (.bool false)))⟩, ⟨(some 105), (some (95, false)), (.mv (.t 104))⟩, ⟨(some 106), (some (105, true)), (.mv (.t 21))⟩, ⟨(some 107), (some (105, true)), (.ld false 1 (.t 7))⟩, ⟨(some 108), (some (105, true)), (.bin .geq (.t 106) (.t 107))⟩, ⟨(some 109), (some (95, false)), (.pick (.t 105) (.t 108) (.c (.bool false)))⟩, ⟨(some 110), none, (.pick (.t 95) (.c (.bool true)) (.t 109))⟩]) (.cond (.t 110) (.seq (.ops [⟨(some 16), none, (.mv (.c (.bool true)))⟩]) (.exit 6)) .skip))))) (.ops [⟨(some 111), none, (.bin .add (.t 79) (.c (.int .i64 1)))⟩, ⟨(some 79), none, (.mv (.t 111))⟩]))))))))) (.ops [⟨(some 112), none, (.bin .add (.t 74) (.c (.int .i64 1)))⟩, ⟨(some 74), none, (.mv (.t 112))⟩]))))))) (.seq (.seq (.ops [⟨(some 113), none, (.mv (.t 16))⟩]) (.cond (.t 113) (.seq (.ops [⟨(some 6), none, (.mv (.c (.int .i64 20)))⟩]) .ret) .skip)) (.seq (.ops [⟨(some 6), none, (.mv (.c (.int .i64 0)))⟩]) .ret)))))))))))
theorem tr35 : Try.f35.body.bind (trCode Try.prog) = some (strip ac35) := by kernel_rfl
theorem spec35 (old new : Lv) (user : List UInt8) : Spec Try.prog 35 [.fz (.agg (encLv old)), .fz (.agg (encLv new)), .fz (.str user)] (.fz (.int .i64 (chgR old new user))) := by
  refine spec_at (n := 111) (ars := [(.t 6)]) (ac := ac35) Try.func35 (by kernel_rfl) (by kernel_rfl) tr35 (by kernel_rfl) ?_
  unfold ac35
  refine seq_is ?S1 ?h1_1 ?h2_1
  case h1_1 =>
      iterate 4 (all_goals (try (first
        | (with_reducible refine ite_in (fun _ => ?_) (fun _ => ?_))
        | (with_reducible refine ⟨fun _ => ?_, fun _ => ?_⟩)
        | (with_reducible refine And.intro ?_ ?_)
        | (with_reducible intro _)
        | (with_reducible exact is_in _)
        | (simp -implicitDefEqProofs only [SD, SF, SL, e_nf, reduceCtorEq, implies_true, ↓reduceIte, Nat.reduceEqDiff, Nat.reduceAdd, Nat.reduceMul, Nat.reduceSub, Nat.reduceLeDiff, Nat.reduceLT, Int.reduceLT, Int.reduceLE, Int.reduceEq, Int.reduceToNat, Int.reduceAdd, Int.reduceSub, Int.reduceNeg, Int.reduceBEq, Int.reduceBNe, Nat.reduceBEq, Int.cast_ofNat_Int, decide_true, decide_false, ne_eq, eq_self_iff_true, beq_eq_false_iff_ne, bne_iff_ne, List.replicate, encLv, *]))))
  refine seq_is ?S2 ?h1_2 ?h2_2
  case h1_2 =>
      iterate 6 (all_goals (try (first
        | ((with_reducible refine of_kSpec ?_); refine call_fz (spec26 old user) rfl ?_)
        | (with_reducible refine ite_in (fun _ => ?_) (fun _ => ?_))
        | (with_reducible refine ⟨fun _ => ?_, fun _ => ?_⟩)
        | (with_reducible refine And.intro ?_ ?_)
        | (with_reducible intro _)
        | (with_reducible exact is_in _)
        | (simp -implicitDefEqProofs only [SD, SF, SL, e_nf, reduceCtorEq, implies_true, ↓reduceIte, Nat.reduceEqDiff, Nat.reduceAdd, Nat.reduceMul, Nat.reduceSub, Nat.reduceLeDiff, Nat.reduceLT, Int.reduceLT, Int.reduceLE, Int.reduceEq, Int.reduceToNat, Int.reduceAdd, Int.reduceSub, Int.reduceNeg, Int.reduceBEq, Int.reduceBNe, Nat.reduceBEq, Int.cast_ofNat_Int, decide_true, decide_false, ne_eq, eq_self_iff_true, beq_eq_false_iff_ne, bne_iff_ne, List.replicate, encLv, *]))))
  refine seq_is ?S3 ?h1_3 ?h2_3
  case h1_3 =>
      iterate 4 (all_goals (try (first
        | (with_reducible refine ite_in (fun _ => ?_) (fun _ => ?_))
        | (with_reducible refine ⟨fun _ => ?_, fun _ => ?_⟩)
        | (with_reducible refine And.intro ?_ ?_)
        | (with_reducible intro _)
        | (with_reducible exact is_in _)
        | (simp -implicitDefEqProofs only [SD, SF, SL, e_nf, reduceCtorEq, implies_true, ↓reduceIte, Nat.reduceEqDiff, Nat.reduceAdd, Nat.reduceMul, Nat.reduceSub, Nat.reduceLeDiff, Nat.reduceLT, Int.reduceLT, Int.reduceLE, Int.reduceEq, Int.reduceToNat, Int.reduceAdd, Int.reduceSub, Int.reduceNeg, Int.reduceBEq, Int.reduceBNe, Nat.reduceBEq, Int.cast_ofNat_Int, decide_true, decide_false, ne_eq, eq_self_iff_true, beq_eq_false_iff_ne, bne_iff_ne, List.replicate, *]))))
  refine seq_is ?S4 ?h1_4 ?h2_4
  case h1_4 =>
      iterate 12 (all_goals (try (first
        | ((with_reducible refine of_kSpec ?_); refine call_fz (spec47 old) rfl ?_)
        | ((with_reducible refine of_kSpec ?_); refine call_fz (spec47 new) rfl ?_)
        | (with_reducible refine ite_in (fun _ => ?_) (fun _ => ?_))
        | (with_reducible refine ⟨fun _ => ?_, fun _ => ?_⟩)
        | (with_reducible refine And.intro ?_ ?_)
        | (with_reducible intro _)
        | (with_reducible exact is_in _)
        | (simp -implicitDefEqProofs only [SD, SF, SL, e_nf, reduceCtorEq, implies_true, ↓reduceIte, Nat.reduceEqDiff, Nat.reduceAdd, Nat.reduceMul, Nat.reduceSub, Nat.reduceLeDiff, Nat.reduceLT, Int.reduceLT, Int.reduceLE, Int.reduceEq, Int.reduceToNat, Int.reduceAdd, Int.reduceSub, Int.reduceNeg, Int.reduceBEq, Int.reduceBNe, Nat.reduceBEq, Int.cast_ofNat_Int, decide_true, decide_false, ne_eq, eq_self_iff_true, beq_eq_false_iff_ne, bne_iff_ne, List.replicate, encLv, nums, *]))))

  iterate 3 (all_goals (try (first
    | (with_reducible refine ite_in (fun _ => ?_) (fun _ => ?_))
    | (with_reducible refine ⟨fun _ => ?_, fun _ => ?_⟩)
    | (with_reducible refine And.intro ?_ ?_)
    | (with_reducible intro _)
    | (with_reducible exact is_in _)
    | (simp -implicitDefEqProofs only [SD, SF, SL, e_nf, reduceCtorEq, implies_true, ↓reduceIte, Nat.reduceEqDiff, Nat.reduceAdd, Nat.reduceMul, Nat.reduceSub, Nat.reduceLeDiff, Nat.reduceLT, Int.reduceLT, Int.reduceLE, Int.reduceEq, Int.reduceToNat, Int.reduceAdd, Int.reduceSub, Int.reduceNeg, Int.reduceBEq, Int.reduceBNe, Nat.reduceBEq, Int.cast_ofNat_Int, decide_true, decide_false, ne_eq, eq_self_iff_true, beq_eq_false_iff_ne, bne_iff_ne, List.replicate, *]))))
  refine loop_u 8 ?_
  iterate 100 (all_goals (try (first
    | (with_reducible refine unr_next ?_)
    | ((with_reducible refine of_kSpec ?_); refine call_fz (spec46 _ _ _) rfl ?_)
    | (with_reducible refine ite_in (fun _ => ?_) (fun _ => ?_))
    | (with_reducible refine ⟨fun _ => ?_, fun _ => ?_⟩)
    | (with_reducible refine And.intro ?_ ?_)
    | (with_reducible intro _)
    | (with_reducible exact is_in _)
    | ((with_reducible refine eq_in ?_); (exact (chgR_N (by simp_all [okNs, userV])).symm); done)
    | (simp -implicitDefEqProofs only [SD, SF, SL, e_nf, reduceCtorEq, implies_true, ↓reduceIte, Nat.reduceEqDiff, Nat.reduceAdd, Nat.reduceMul, Nat.reduceSub, Nat.reduceLeDiff, Nat.reduceLT, Int.reduceLT, Int.reduceLE, Int.reduceEq, Int.reduceToNat, Int.reduceAdd, Int.reduceSub, Int.reduceNeg, Int.reduceBEq, Int.reduceBNe, Nat.reduceBEq, Int.cast_ofNat_Int, decide_true, decide_false, ne_eq, eq_self_iff_true, beq_eq_false_iff_ne, bne_iff_ne, List.replicate, nums, wr_lit, *]))))
  have hN : okNs old new user = true := by simp_all [okNs, userV]
  refine loop_u 3 ?_
  iterate 8 (all_goals (try (first
    | (with_reducible refine ite_in (fun _ => ?_) (fun _ => ?_))
    | (with_reducible refine ⟨fun _ => ?_, fun _ => ?_⟩)
    | (with_reducible refine And.intro ?_ ?_)
    | (with_reducible intro _)
    | (with_reducible exact is_in _)
    | (simp -implicitDefEqProofs only [SD, SF, SL, e_nf, reduceCtorEq, implies_true, ↓reduceIte, Nat.reduceEqDiff, Nat.reduceAdd, Nat.reduceMul, Nat.reduceSub, Nat.reduceLeDiff, Nat.reduceLT, Int.reduceLT, Int.reduceLE, Int.reduceEq, Int.reduceToNat, Int.reduceAdd, Int.reduceSub, Int.reduceNeg, Int.reduceBEq, Int.reduceBNe, Nat.reduceBEq, Int.cast_ofNat_Int, decide_true, decide_false, ne_eq, eq_self_iff_true, beq_eq_false_iff_ne, bne_iff_ne, List.replicate, encLv, wr_lit, *]))))
  rename_i hl1
  refine loop_q (X := List LK × List LK × Unit) (fun n x => old.kinds = x.1 ++ x.2.1 ∧ n = x.2.1.length ∧ (x.1.all (okK old new user) = true)) (fun x => [(53, .int .i64 x.1.length)]) (fun _ => []) [6, 15, 54, 55, 56, 57, 58, 59, 60, 61, 62, 63, 64, 65, 66, 67] [15] (old.kinds).length ([], old.kinds, ()) ⟨rfl, rfl, by first | rfl | exact all_snoc hI1 (by simp_all [okK, userV])⟩ ?_ ?_
  · simp -implicitDefEqProofs only [SD, SF, SL, e_nf, reduceCtorEq, implies_true, ↓reduceIte, Nat.reduceEqDiff, Nat.reduceAdd, Nat.reduceMul, Nat.reduceSub, Nat.reduceLeDiff, Nat.reduceLT, Int.reduceLT, Int.reduceLE, Int.reduceEq, Int.reduceToNat, Int.reduceAdd, Int.reduceSub, Int.reduceNeg, Int.reduceBEq, Int.reduceBNe, Nat.reduceBEq, Int.cast_ofNat_Int, decide_true, decide_false, ne_eq, eq_self_iff_true, beq_eq_false_iff_ne, bne_iff_ne, List.replicate, encLv, wr_lit] <;> simp
  · rintro n ⟨pre1, rest1, a1⟩ ⟨he1, rfl, hI1⟩
    dsimp only at he1 hI1
    cases rest1 with
    | nil =>
      obtain rfl : old.kinds = pre1 := by simpa using he1
      clear he1
      have hlt1 : ¬ (((old.kinds).length : Int) < ((old.kinds).length : Int)) := Int.lt_irrefl _
      iterate 30 (all_goals (try (first
        | (with_reducible refine unr_next ?_)
        | (with_reducible refine ite_in (fun _ => ?_) (fun _ => ?_))
        | (with_reducible refine ⟨fun _ => ?_, fun _ => ?_⟩)
        | (with_reducible refine And.intro ?_ ?_)
        | (with_reducible intro _)
        | (with_reducible exact is_in _)
        | ((with_reducible refine eq_in ?_); (exact (chgR_K1 (all_cut he1.out (by simp_all [okK, userV]))).symm); done)
        | (simp -implicitDefEqProofs only [SD, SF, SL, e_nf, reduceCtorEq, implies_true, ↓reduceIte, Nat.reduceEqDiff, Nat.reduceAdd, Nat.reduceMul, Nat.reduceSub, Nat.reduceLeDiff, Nat.reduceLT, Int.reduceLT, Int.reduceLE, Int.reduceEq, Int.reduceToNat, Int.reduceAdd, Int.reduceSub, Int.reduceNeg, Int.reduceBEq, Int.reduceBNe, Nat.reduceBEq, Int.cast_ofNat_Int, decide_true, decide_false, ne_eq, eq_self_iff_true, beq_eq_false_iff_ne, bne_iff_ne, List.replicate, encLv, wr_lit, *]))))
      rename_i hl2
      refine loop_q (X := List LK × List LK × Unit) (fun n x => new.kinds = x.1 ++ x.2.1 ∧ n = x.2.1.length ∧ (x.1.all (okK old new user) = true)) (fun x => [(53, .int .i64 x.1.length)]) (fun _ => []) [6, 15, 54, 55, 56, 57, 58, 59, 60, 61, 62, 63, 64, 65, 66, 67] [15] (new.kinds).length ([], new.kinds, ()) ⟨rfl, rfl, by first | rfl | exact all_snoc hI2 (by simp_all [okK, userV])⟩ ?_ ?_
      · simp -implicitDefEqProofs only [SD, SF, SL, e_nf, reduceCtorEq, implies_true, ↓reduceIte, Nat.reduceEqDiff, Nat.reduceAdd, Nat.reduceMul, Nat.reduceSub, Nat.reduceLeDiff, Nat.reduceLT, Int.reduceLT, Int.reduceLE, Int.reduceEq, Int.reduceToNat, Int.reduceAdd, Int.reduceSub, Int.reduceNeg, Int.reduceBEq, Int.reduceBNe, Nat.reduceBEq, Int.cast_ofNat_Int, decide_true, decide_false, ne_eq, eq_self_iff_true, beq_eq_false_iff_ne, bne_iff_ne, List.replicate, encLv, wr_lit] <;> simp
      · rintro n ⟨pre2, rest2, a2⟩ ⟨he2, rfl, hI2⟩
        dsimp only at he2 hI2
        cases rest2 with
        | nil =>
          obtain rfl : new.kinds = pre2 := by simpa using he2
          clear he2
          have hlt2 : ¬ (((new.kinds).length : Int) < ((new.kinds).length : Int)) := Int.lt_irrefl _
          iterate 30 (all_goals (try (first
            | (with_reducible refine unr_next ?_)
            | (with_reducible refine ite_in (fun _ => ?_) (fun _ => ?_))
            | (with_reducible refine ⟨fun _ => ?_, fun _ => ?_⟩)
            | (with_reducible refine And.intro ?_ ?_)
            | (with_reducible intro _)
            | (with_reducible exact is_in _)
            | ((with_reducible refine eq_in ?_); (exact (chgR_K2 (all_cut he2.out (by simp_all [okK, userV]))).symm); done)
            | (simp -implicitDefEqProofs only [SD, SF, SL, e_nf, reduceCtorEq, implies_true, ↓reduceIte, Nat.reduceEqDiff, Nat.reduceAdd, Nat.reduceMul, Nat.reduceSub, Nat.reduceLeDiff, Nat.reduceLT, Int.reduceLT, Int.reduceLE, Int.reduceEq, Int.reduceToNat, Int.reduceAdd, Int.reduceSub, Int.reduceNeg, Int.reduceBEq, Int.reduceBNe, Nat.reduceBEq, Int.cast_ofNat_Int, decide_true, decide_false, ne_eq, eq_self_iff_true, beq_eq_false_iff_ne, bne_iff_ne, List.replicate, encLv, wr_lit, *]))))
          refine loop_u 3 ?_
          iterate 8 (all_goals (try (first
            | (with_reducible refine ite_in (fun _ => ?_) (fun _ => ?_))
            | (with_reducible refine ⟨fun _ => ?_, fun _ => ?_⟩)
            | (with_reducible refine And.intro ?_ ?_)
            | (with_reducible intro _)
            | (with_reducible exact is_in _)
            | (simp -implicitDefEqProofs only [SD, SF, SL, e_nf, reduceCtorEq, implies_true, ↓reduceIte, Nat.reduceEqDiff, Nat.reduceAdd, Nat.reduceMul, Nat.reduceSub, Nat.reduceLeDiff, Nat.reduceLT, Int.reduceLT, Int.reduceLE, Int.reduceEq, Int.reduceToNat, Int.reduceAdd, Int.reduceSub, Int.reduceNeg, Int.reduceBEq, Int.reduceBNe, Nat.reduceBEq, Int.cast_ofNat_Int, decide_true, decide_false, ne_eq, eq_self_iff_true, beq_eq_false_iff_ne, bne_iff_ne, List.replicate, encLv, wr_lit, *]))))
          rename_i hl3
          refine loop_q (X := List LU × List LU × Unit) (fun n x => old.users = x.1 ++ x.2.1 ∧ n = x.2.1.length ∧ (x.1.all (okX old new user) = true)) (fun x => [(79, .int .i64 x.1.length), (16, .bool false)]) (fun _ => []) [20, 21, 22, 80, 81, 82, 83, 84, 85, 86, 87, 88, 89, 90, 91, 92, 93, 94, 95, 96, 97, 98, 99, 100, 101, 102, 103, 104, 105, 106, 107, 108, 109, 110, 111] [20] (old.users).length ([], old.users, ()) ⟨rfl, rfl, by first | rfl | exact all_snoc hI3 (by grind [okX, okU, okN, userV])⟩ ?_ ?_
          · simp -implicitDefEqProofs only [SD, SF, SL, e_nf, reduceCtorEq, implies_true, ↓reduceIte, Nat.reduceEqDiff, Nat.reduceAdd, Nat.reduceMul, Nat.reduceSub, Nat.reduceLeDiff, Nat.reduceLT, Int.reduceLT, Int.reduceLE, Int.reduceEq, Int.reduceToNat, Int.reduceAdd, Int.reduceSub, Int.reduceNeg, Int.reduceBEq, Int.reduceBNe, Nat.reduceBEq, Int.cast_ofNat_Int, decide_true, decide_false, ne_eq, eq_self_iff_true, beq_eq_false_iff_ne, bne_iff_ne, List.replicate, encLv, wr_lit] <;> simp
          · rintro n ⟨pre3, rest3, a3⟩ ⟨he3, rfl, hI3⟩
            dsimp only at he3 hI3
            cases rest3 with
            | nil =>
              obtain rfl : old.users = pre3 := by simpa using he3
              clear he3
              have hlt3 : ¬ (((old.users).length : Int) < ((old.users).length : Int)) := Int.lt_irrefl _
              iterate 30 (all_goals (try (first
                | (with_reducible refine unr_next ?_)
                | (with_reducible refine ite_in (fun _ => ?_) (fun _ => ?_))
                | (with_reducible refine ⟨fun _ => ?_, fun _ => ?_⟩)
                | (with_reducible refine And.intro ?_ ?_)
                | (with_reducible intro _)
                | (with_reducible exact is_in _)
                | ((with_reducible refine eq_in ?_); (exact (chgR_U1 (all_cut he3.out (by grind [okX, okU, okN, userV]))).symm); done)
                | (simp -implicitDefEqProofs only [SD, SF, SL, e_nf, reduceCtorEq, implies_true, ↓reduceIte, Nat.reduceEqDiff, Nat.reduceAdd, Nat.reduceMul, Nat.reduceSub, Nat.reduceLeDiff, Nat.reduceLT, Int.reduceLT, Int.reduceLE, Int.reduceEq, Int.reduceToNat, Int.reduceAdd, Int.reduceSub, Int.reduceNeg, Int.reduceBEq, Int.reduceBNe, Nat.reduceBEq, Int.cast_ofNat_Int, decide_true, decide_false, ne_eq, eq_self_iff_true, beq_eq_false_iff_ne, bne_iff_ne, List.replicate, encLv, wr_lit, *]))))
              rename_i hl4
              refine loop_q (X := List LU × List LU × Unit) (fun n x => new.users = x.1 ++ x.2.1 ∧ n = x.2.1.length ∧ (x.1.all (okX old new user) = true)) (fun x => [(79, .int .i64 x.1.length), (16, .bool false)]) (fun _ => []) [20, 21, 22, 80, 81, 82, 83, 84, 85, 86, 87, 88, 89, 90, 91, 92, 93, 94, 95, 96, 97, 98, 99, 100, 101, 102, 103, 104, 105, 106, 107, 108, 109, 110, 111] [20] (new.users).length ([], new.users, ()) ⟨rfl, rfl, by first | rfl | exact all_snoc hI4 (by grind [okX, okU, okN, userV])⟩ ?_ ?_
              · simp -implicitDefEqProofs only [SD, SF, SL, e_nf, reduceCtorEq, implies_true, ↓reduceIte, Nat.reduceEqDiff, Nat.reduceAdd, Nat.reduceMul, Nat.reduceSub, Nat.reduceLeDiff, Nat.reduceLT, Int.reduceLT, Int.reduceLE, Int.reduceEq, Int.reduceToNat, Int.reduceAdd, Int.reduceSub, Int.reduceNeg, Int.reduceBEq, Int.reduceBNe, Nat.reduceBEq, Int.cast_ofNat_Int, decide_true, decide_false, ne_eq, eq_self_iff_true, beq_eq_false_iff_ne, bne_iff_ne, List.replicate, encLv, wr_lit] <;> simp
              · rintro n ⟨pre4, rest4, a4⟩ ⟨he4, rfl, hI4⟩
                dsimp only at he4 hI4
                cases rest4 with
                | nil =>
                  obtain rfl : new.users = pre4 := by simpa using he4
                  clear he4
                  have hlt4 : ¬ (((new.users).length : Int) < ((new.users).length : Int)) := Int.lt_irrefl _
                  iterate 30 (all_goals (try (first
                    | (with_reducible refine unr_next ?_)
                    | (with_reducible refine ite_in (fun _ => ?_) (fun _ => ?_))
                    | (with_reducible refine ⟨fun _ => ?_, fun _ => ?_⟩)
                    | (with_reducible refine And.intro ?_ ?_)
                    | (with_reducible intro _)
                    | (with_reducible exact is_in _)
                    | ((with_reducible refine eq_in ?_); (exact (chgR_U2 (all_cut he4.out (by grind [okX, okU, okN, userV]))).symm); done)
                    | (simp -implicitDefEqProofs only [SD, SF, SL, e_nf, reduceCtorEq, implies_true, ↓reduceIte, Nat.reduceEqDiff, Nat.reduceAdd, Nat.reduceMul, Nat.reduceSub, Nat.reduceLeDiff, Nat.reduceLT, Int.reduceLT, Int.reduceLE, Int.reduceEq, Int.reduceToNat, Int.reduceAdd, Int.reduceSub, Int.reduceNeg, Int.reduceBEq, Int.reduceBNe, Nat.reduceBEq, Int.cast_ofNat_Int, decide_true, decide_false, ne_eq, eq_self_iff_true, beq_eq_false_iff_ne, bne_iff_ne, List.replicate, encLv, wr_lit, *]))))
                  exact (chgR_ok hN hI1 hI2 hI3 hI4).symm
                | cons x4 rest4 =>
                  have hlt4 := cut_lt he4
                  have hx4 := cutD encLU he4
                  simp only [encLU] at hx4
                  have hw4 := wrap_len (n := pre4.length) (m := (new.users).length) (cut_lt' he4) hl4
                  replace he4 := Hd.mk he4
                  iterate 30 (all_goals (try (first
                    | ((with_reducible refine back_in rest4.length [20, 21, 22, 80, 81, 82, 83, 84, 85, 86, 87, 88, 89, 90, 91, 92, 93, 94, 95, 96, 97, 98, 99, 100, 101, 102, 103, 104, 105, 106, 107, 108, 109, 110, 111] [20] (pre4 ++ [x4], rest4, a4) ?_ ⟨?_, ?_, ?_⟩ ?_)
                       · simp
                       · exact cut_snoc he4.out
                       · rfl
                       · first | rfl | exact all_snoc hI4 (by grind [okX, okU, okN, userV])
                       · first | (simp -implicitDefEqProofs only [SD, SF, SL, e_nf, reduceCtorEq, implies_true, ↓reduceIte, Nat.reduceEqDiff, Nat.reduceAdd, Nat.reduceMul, Nat.reduceSub, Nat.reduceLeDiff, Nat.reduceLT, Int.reduceLT, Int.reduceLE, Int.reduceEq, Int.reduceToNat, Int.reduceAdd, Int.reduceSub, Int.reduceNeg, Int.reduceBEq, Int.reduceBNe, Nat.reduceBEq, Int.cast_ofNat_Int, decide_true, decide_false, ne_eq, eq_self_iff_true, beq_eq_false_iff_ne, bne_iff_ne, List.replicate, encLv, wr_lit] <;> simp <;> done) | (simp -implicitDefEqProofs only [SD, SF, SL, e_nf, reduceCtorEq, implies_true, ↓reduceIte, Nat.reduceEqDiff, Nat.reduceAdd, Nat.reduceMul, Nat.reduceSub, Nat.reduceLeDiff, Nat.reduceLT, Int.reduceLT, Int.reduceLE, Int.reduceEq, Int.reduceToNat, Int.reduceAdd, Int.reduceSub, Int.reduceNeg, Int.reduceBEq, Int.reduceBNe, Nat.reduceBEq, Int.cast_ofNat_Int, decide_true, decide_false, ne_eq, eq_self_iff_true, beq_eq_false_iff_ne, bne_iff_ne, List.replicate, encLv, wr_lit, *] <;> simp_all <;> done))
                    | ((with_reducible refine of_kSpec ?_); refine call_fz (spec26 old x4.user) rfl ?_)
                    | ((with_reducible refine of_kSpec ?_); refine call_fz (spec26 new x4.user) rfl ?_)
                    | ((with_reducible refine of_kSpec ?_); refine call_fz (spec46 _ _ _) rfl ?_)
                    | (with_reducible refine ite_in (fun _ => ?_) (fun _ => ?_))
                    | (with_reducible refine ⟨fun _ => ?_, fun _ => ?_⟩)
                    | (with_reducible refine And.intro ?_ ?_)
                    | (with_reducible intro _)
                    | (with_reducible exact is_in _)
                    | ((with_reducible refine eq_in ?_); (exact (chgR_U2 (all_cut he4.out (by grind [okX, okU, okN, userV]))).symm); done)
                    | (simp -implicitDefEqProofs only [SD, SF, SL, e_nf, reduceCtorEq, implies_true, ↓reduceIte, Nat.reduceEqDiff, Nat.reduceAdd, Nat.reduceMul, Nat.reduceSub, Nat.reduceLeDiff, Nat.reduceLT, Int.reduceLT, Int.reduceLE, Int.reduceEq, Int.reduceToNat, Int.reduceAdd, Int.reduceSub, Int.reduceNeg, Int.reduceBEq, Int.reduceBNe, Nat.reduceBEq, Int.cast_ofNat_Int, decide_true, decide_false, ne_eq, eq_self_iff_true, beq_eq_false_iff_ne, bne_iff_ne, List.replicate, encLv, wr_lit, *]))))
            | cons x3 rest3 =>
              have hlt3 := cut_lt he3
              have hx3 := cutD encLU he3
              simp only [encLU] at hx3
              have hw3 := wrap_len (n := pre3.length) (m := (old.users).length) (cut_lt' he3) hl3
              replace he3 := Hd.mk he3
              iterate 30 (all_goals (try (first
                | ((with_reducible refine back_in rest3.length [20, 21, 22, 80, 81, 82, 83, 84, 85, 86, 87, 88, 89, 90, 91, 92, 93, 94, 95, 96, 97, 98, 99, 100, 101, 102, 103, 104, 105, 106, 107, 108, 109, 110, 111] [20] (pre3 ++ [x3], rest3, a3) ?_ ⟨?_, ?_, ?_⟩ ?_)
                   · simp
                   · exact cut_snoc he3.out
                   · rfl
                   · first | rfl | exact all_snoc hI3 (by grind [okX, okU, okN, userV])
                   · first | (simp -implicitDefEqProofs only [SD, SF, SL, e_nf, reduceCtorEq, implies_true, ↓reduceIte, Nat.reduceEqDiff, Nat.reduceAdd, Nat.reduceMul, Nat.reduceSub, Nat.reduceLeDiff, Nat.reduceLT, Int.reduceLT, Int.reduceLE, Int.reduceEq, Int.reduceToNat, Int.reduceAdd, Int.reduceSub, Int.reduceNeg, Int.reduceBEq, Int.reduceBNe, Nat.reduceBEq, Int.cast_ofNat_Int, decide_true, decide_false, ne_eq, eq_self_iff_true, beq_eq_false_iff_ne, bne_iff_ne, List.replicate, encLv, wr_lit] <;> simp <;> done) | (simp -implicitDefEqProofs only [SD, SF, SL, e_nf, reduceCtorEq, implies_true, ↓reduceIte, Nat.reduceEqDiff, Nat.reduceAdd, Nat.reduceMul, Nat.reduceSub, Nat.reduceLeDiff, Nat.reduceLT, Int.reduceLT, Int.reduceLE, Int.reduceEq, Int.reduceToNat, Int.reduceAdd, Int.reduceSub, Int.reduceNeg, Int.reduceBEq, Int.reduceBNe, Nat.reduceBEq, Int.cast_ofNat_Int, decide_true, decide_false, ne_eq, eq_self_iff_true, beq_eq_false_iff_ne, bne_iff_ne, List.replicate, encLv, wr_lit, *] <;> simp_all <;> done))
                | ((with_reducible refine of_kSpec ?_); refine call_fz (spec26 old x3.user) rfl ?_)
                | ((with_reducible refine of_kSpec ?_); refine call_fz (spec26 new x3.user) rfl ?_)
                | ((with_reducible refine of_kSpec ?_); refine call_fz (spec46 _ _ _) rfl ?_)
                | (with_reducible refine ite_in (fun _ => ?_) (fun _ => ?_))
                | (with_reducible refine ⟨fun _ => ?_, fun _ => ?_⟩)
                | (with_reducible refine And.intro ?_ ?_)
                | (with_reducible intro _)
                | (with_reducible exact is_in _)
                | ((with_reducible refine eq_in ?_); (exact (chgR_U1 (all_cut he3.out (by grind [okX, okU, okN, userV]))).symm); done)
                | (simp -implicitDefEqProofs only [SD, SF, SL, e_nf, reduceCtorEq, implies_true, ↓reduceIte, Nat.reduceEqDiff, Nat.reduceAdd, Nat.reduceMul, Nat.reduceSub, Nat.reduceLeDiff, Nat.reduceLT, Int.reduceLT, Int.reduceLE, Int.reduceEq, Int.reduceToNat, Int.reduceAdd, Int.reduceSub, Int.reduceNeg, Int.reduceBEq, Int.reduceBNe, Nat.reduceBEq, Int.cast_ofNat_Int, decide_true, decide_false, ne_eq, eq_self_iff_true, beq_eq_false_iff_ne, bne_iff_ne, List.replicate, encLv, wr_lit, *]))))
        | cons x2 rest2 =>
          have hlt2 := cut_lt he2
          have hx2 := cutD encLK he2
          simp only [encLK] at hx2
          have hw2 := wrap_len (n := pre2.length) (m := (new.kinds).length) (cut_lt' he2) hl2
          replace he2 := Hd.mk he2
          iterate 30 (all_goals (try (first
            | ((with_reducible refine back_in rest2.length [6, 15, 54, 55, 56, 57, 58, 59, 60, 61, 62, 63, 64, 65, 66, 67] [15] (pre2 ++ [x2], rest2, a2) ?_ ⟨?_, ?_, ?_⟩ ?_)
               · simp
               · exact cut_snoc he2.out
               · rfl
               · first | rfl | exact all_snoc hI2 (by simp_all [okK, userV])
               · first | (simp -implicitDefEqProofs only [SD, SF, SL, e_nf, reduceCtorEq, implies_true, ↓reduceIte, Nat.reduceEqDiff, Nat.reduceAdd, Nat.reduceMul, Nat.reduceSub, Nat.reduceLeDiff, Nat.reduceLT, Int.reduceLT, Int.reduceLE, Int.reduceEq, Int.reduceToNat, Int.reduceAdd, Int.reduceSub, Int.reduceNeg, Int.reduceBEq, Int.reduceBNe, Nat.reduceBEq, Int.cast_ofNat_Int, decide_true, decide_false, ne_eq, eq_self_iff_true, beq_eq_false_iff_ne, bne_iff_ne, List.replicate, encLv, wr_lit] <;> simp <;> done) | (simp -implicitDefEqProofs only [SD, SF, SL, e_nf, reduceCtorEq, implies_true, ↓reduceIte, Nat.reduceEqDiff, Nat.reduceAdd, Nat.reduceMul, Nat.reduceSub, Nat.reduceLeDiff, Nat.reduceLT, Int.reduceLT, Int.reduceLE, Int.reduceEq, Int.reduceToNat, Int.reduceAdd, Int.reduceSub, Int.reduceNeg, Int.reduceBEq, Int.reduceBNe, Nat.reduceBEq, Int.cast_ofNat_Int, decide_true, decide_false, ne_eq, eq_self_iff_true, beq_eq_false_iff_ne, bne_iff_ne, List.replicate, encLv, wr_lit, *] <;> simp_all <;> done))
            | ((with_reducible refine of_kSpec ?_); refine call_fz (spec28 old x2.kind) rfl ?_)
            | ((with_reducible refine of_kSpec ?_); refine call_fz (spec28 new x2.kind) rfl ?_)
            | ((with_reducible refine of_kSpec ?_); refine call_fz (spec46 _ _ _) rfl ?_)
            | (with_reducible refine ite_in (fun _ => ?_) (fun _ => ?_))
            | (with_reducible refine ⟨fun _ => ?_, fun _ => ?_⟩)
            | (with_reducible refine And.intro ?_ ?_)
            | (with_reducible intro _)
            | (with_reducible exact is_in _)
            | ((with_reducible refine eq_in ?_); (exact (chgR_K2 (all_cut he2.out (by simp_all [okK, userV]))).symm); done)
            | (simp -implicitDefEqProofs only [SD, SF, SL, e_nf, reduceCtorEq, implies_true, ↓reduceIte, Nat.reduceEqDiff, Nat.reduceAdd, Nat.reduceMul, Nat.reduceSub, Nat.reduceLeDiff, Nat.reduceLT, Int.reduceLT, Int.reduceLE, Int.reduceEq, Int.reduceToNat, Int.reduceAdd, Int.reduceSub, Int.reduceNeg, Int.reduceBEq, Int.reduceBNe, Nat.reduceBEq, Int.cast_ofNat_Int, decide_true, decide_false, ne_eq, eq_self_iff_true, beq_eq_false_iff_ne, bne_iff_ne, List.replicate, encLv, wr_lit, *]))))
    | cons x1 rest1 =>
      have hlt1 := cut_lt he1
      have hx1 := cutD encLK he1
      simp only [encLK] at hx1
      have hw1 := wrap_len (n := pre1.length) (m := (old.kinds).length) (cut_lt' he1) hl1
      replace he1 := Hd.mk he1
      iterate 30 (all_goals (try (first
        | ((with_reducible refine back_in rest1.length [6, 15, 54, 55, 56, 57, 58, 59, 60, 61, 62, 63, 64, 65, 66, 67] [15] (pre1 ++ [x1], rest1, a1) ?_ ⟨?_, ?_, ?_⟩ ?_)
           · simp
           · exact cut_snoc he1.out
           · rfl
           · first | rfl | exact all_snoc hI1 (by simp_all [okK, userV])
           · first | (simp -implicitDefEqProofs only [SD, SF, SL, e_nf, reduceCtorEq, implies_true, ↓reduceIte, Nat.reduceEqDiff, Nat.reduceAdd, Nat.reduceMul, Nat.reduceSub, Nat.reduceLeDiff, Nat.reduceLT, Int.reduceLT, Int.reduceLE, Int.reduceEq, Int.reduceToNat, Int.reduceAdd, Int.reduceSub, Int.reduceNeg, Int.reduceBEq, Int.reduceBNe, Nat.reduceBEq, Int.cast_ofNat_Int, decide_true, decide_false, ne_eq, eq_self_iff_true, beq_eq_false_iff_ne, bne_iff_ne, List.replicate, encLv, wr_lit] <;> simp <;> done) | (simp -implicitDefEqProofs only [SD, SF, SL, e_nf, reduceCtorEq, implies_true, ↓reduceIte, Nat.reduceEqDiff, Nat.reduceAdd, Nat.reduceMul, Nat.reduceSub, Nat.reduceLeDiff, Nat.reduceLT, Int.reduceLT, Int.reduceLE, Int.reduceEq, Int.reduceToNat, Int.reduceAdd, Int.reduceSub, Int.reduceNeg, Int.reduceBEq, Int.reduceBNe, Nat.reduceBEq, Int.cast_ofNat_Int, decide_true, decide_false, ne_eq, eq_self_iff_true, beq_eq_false_iff_ne, bne_iff_ne, List.replicate, encLv, wr_lit, *] <;> simp_all <;> done))
        | ((with_reducible refine of_kSpec ?_); refine call_fz (spec28 old x1.kind) rfl ?_)
        | ((with_reducible refine of_kSpec ?_); refine call_fz (spec28 new x1.kind) rfl ?_)
        | ((with_reducible refine of_kSpec ?_); refine call_fz (spec46 _ _ _) rfl ?_)
        | (with_reducible refine ite_in (fun _ => ?_) (fun _ => ?_))
        | (with_reducible refine ⟨fun _ => ?_, fun _ => ?_⟩)
        | (with_reducible refine And.intro ?_ ?_)
        | (with_reducible intro _)
        | (with_reducible exact is_in _)
        | ((with_reducible refine eq_in ?_); (exact (chgR_K1 (all_cut he1.out (by simp_all [okK, userV]))).symm); done)
        | (simp -implicitDefEqProofs only [SD, SF, SL, e_nf, reduceCtorEq, implies_true, ↓reduceIte, Nat.reduceEqDiff, Nat.reduceAdd, Nat.reduceMul, Nat.reduceSub, Nat.reduceLeDiff, Nat.reduceLT, Int.reduceLT, Int.reduceLE, Int.reduceEq, Int.reduceToNat, Int.reduceAdd, Int.reduceSub, Int.reduceNeg, Int.reduceBEq, Int.reduceBNe, Nat.reduceBEq, Int.cast_ofNat_Int, decide_true, decide_false, ne_eq, eq_self_iff_true, beq_eq_false_iff_ne, bne_iff_ne, List.replicate, encLv, wr_lit, *]))))

end Go.Proofs.Ythackanfbemabaa.E
