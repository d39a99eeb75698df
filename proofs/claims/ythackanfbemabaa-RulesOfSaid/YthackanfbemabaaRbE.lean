/-
  RbE: walks of functions of the program at data level.
-/
import Derived.Test.YthackanfbemabaaProg
import Derived.Test.YthackanfbemabaaEngZ
import Derived.Test.YthackanfbemabaaRbD
import Derived.KernelRfl
set_option linter.unusedVariables false
set_option linter.unusedSimpArgs false
namespace Go.Proofs.Ythackanfbemabaa.E
open Go
set_option maxHeartbeats 4000000
set_option maxRecDepth 100000
set_option linter.unusedSimpArgs false
set_option linter.unusedVariables false
attribute [local congr] c_wp c_ops c_op c_opS c_run c_runS c_dt c_seq c_blk c_loop c_S c_put c_bind c_mv c_pick c_nt c_ng c_bin c_binI c_binS c_beq c_B c_eqa c_hd c_cells c_blkK c_box c_vec c_take c_ld c_ldF c_cellsK c_st c_fld c_fldv c_ix c_ixp c_ixv c_ixs c_sub c_subs c_len c_lens c_src c_dst c_ow c_app c_ext c_mm c_conv c_str c_isn c_fill c_rows c_boxo c_frz c_frzO c_frzA c_frzV c_spec c_specO c_fz c_fn c_gv c_cond c_res1 c_resL c_ret c_qret c_ite c_unr c_nx c_bk c_cut c_is
attribute [local irreducible] dwp

theorem all_cut {α : Type} {p : α → Bool} {es pre : List α} {x : α} {rest : List α} (h : es = pre ++ x :: rest) (hx : p x = false) : es.all p = false := by
  subst h
  simp [hx]
theorem all_snoc {α : Type} {p : α → Bool} {pre : List α} {x : α} (h : pre.all p = true) (hx : p x = true) : (pre ++ [x]).all p = true := by
  rw [List.all_append, h]
  simp [hx]
theorem chgR_N {old new : Lv} {user : List UInt8} (h : okNs old new user = false) : chgR old new user = 20 := by simp [chgR, h]
theorem chgR_K {old new : Lv} {user : List UInt8} (h : (old.kinds ++ new.kinds).all (okK old new user) = false) : chgR old new user = 20 := by
  unfold chgR
  rw [h]
  simp
theorem chgR_K1 {old new : Lv} {user : List UInt8} (h : old.kinds.all (okK old new user) = false) : chgR old new user = 20 := chgR_K (by rw [List.all_append, h]; rfl)
theorem chgR_K2 {old new : Lv} {user : List UInt8} (h : new.kinds.all (okK old new user) = false) : chgR old new user = 20 := chgR_K (by rw [List.all_append, h]; simp)
theorem chgR_U {old new : Lv} {user : List UInt8} (h : (old.users ++ new.users).all (okX old new user) = false) : chgR old new user = 20 := by
  unfold chgR
  rw [h]
  simp
theorem chgR_U1 {old new : Lv} {user : List UInt8} (h : old.users.all (okX old new user) = false) : chgR old new user = 20 := chgR_U (by rw [List.all_append, h]; rfl)
theorem chgR_U2 {old new : Lv} {user : List UInt8} (h : new.users.all (okX old new user) = false) : chgR old new user = 20 := chgR_U (by rw [List.all_append, h]; simp)
theorem chgR_ok {old new : Lv} {user : List UInt8} (h1 : okNs old new user = true) (h2 : old.kinds.all (okK old new user) = true) (h2' : new.kinds.all (okK old new user) = true) (h3 : old.users.all (okX old new user) = true) (h4 : new.users.all (okX old new user) = true) : chgR old new user = 0 := by
  unfold chgR
  rw [h1, List.all_append, List.all_append, h2, h2', h3, h4]
  rfl
theorem okNs_eq (old new : Lv) (user : List UInt8) : okNs old new user = (okN (userV old user) old.a2 new.a2 && okN (userV old user) old.a3 new.a3 && okN (userV old user) old.a4 new.a4 && okN (userV old user) old.a5 new.a5 && okN (userV old user) old.a6 new.a6 && okN (userV old user) old.a7 new.a7 && okN (userV old user) old.a8 new.a8) := rfl
def ac36 : AC := (.seq (.ops [⟨(some 3), none, (.box (.t 0))⟩, ⟨(some 4), none, (.box (.t 1))⟩, ⟨(some 6), none, (.mv (.c (.int .i64 0)))⟩]) (.seq (.ops [⟨(some 15), none, (.ld true 9 (.t 3))⟩, ⟨(some 16), none, (.mv (.t 2))⟩, ⟨(some 17), none, (.call false 27 [(.t 15), (.t 16)])⟩, ⟨(some 7), none, (.mv (.t 17))⟩]) (.seq (.draw (.q false ⟨(some 18), none, (.ld true 9 (.t 3))⟩ (.q false ⟨(some 20), none, (.ld true 9 (.t 4))⟩ (.op ⟨(some 19), none, (.call false 42 [(.t 18)])⟩ (.op ⟨(some 21), none, (.call false 42 [(.t 20)])⟩ (.q false ⟨(some 8), none, (.mv (.t 19))⟩ (.q false ⟨(some 9), none, (.mv (.t 21))⟩ .nil))))))) (.seq (.seq (.ops [⟨(some 10), none, (.mv (.c (.int .i64 0)))⟩]) (.block 0 (.loop (.seq (.seq (.ops [⟨(some 22), none, (.mv (.t 10))⟩, ⟨(some 23), none, (.mv (.t 8))⟩, ⟨(some 24), none, (.len (.t 23))⟩, ⟨(some 25), none, (.bin .lss (.t 22) (.t 24))⟩]) (.cond (.t 25) .skip (.exit 0))) (.seq (.block 1 (.seq (.draw (.q false ⟨(some 28), none, (.mv (.t 8))⟩ (.q false ⟨(some 29), none, (.mv (.t 10))⟩ (.q false ⟨(some 30), none, (.ix 1 (.t 28) (.t 29))⟩ (.q false ⟨(some 31), none, (.ld false 1 (.t 30))⟩ (.q false ⟨(some 32), none, (.mv (.t 9))⟩ (.q false ⟨(some 33), none, (.mv (.t 10))⟩ (.q false ⟨(some 34), none, (.ix 1 (.t 32) (.t 33))⟩ (.q false ⟨(some 35), none, (.ld false 1 (.t 34))⟩ (.q false ⟨(some 36), none, (.mv (.t 7))⟩ (.op ⟨(some 37), none, (.call false 48 [(.t 31), (.t 35), (.t 36)])⟩ (.q false ⟨(some 38), none, (.nt (.t 37))⟩ .nil)))))))))))) (.cond (.t 38) (.seq (.ops [⟨(some 6), none, (.mv (.c (.int .i64 20)))⟩]) .ret) .skip))) (.ops [⟨(some 26), none, (.mv (.t 10))⟩, ⟨(some 27), none, (.bin .add (.t 26) (.c (.int .i64 1)))⟩, ⟨(some 10), none, (.mv (.t 27))⟩])))))) (.seq (.seq (.ops [⟨(some 11), none, (.mv (.c (.int .i64 0)))⟩]) (.block 2 (.loop (.seq (.seq (.ops [⟨(some 39), none, (.mv (.t 11))⟩, ⟨(some 40), none, (.fld 1 (.t 3))⟩, ⟨(some 41), none, (.ld false 1 (.t 40))⟩, ⟨(some 42), none, (.len (.t 41))⟩, ⟨(some 43), none, (.fld 1 (.t 4))⟩, ⟨(some 44), none, (.ld false 1 (.t 43))⟩, ⟨(some 45), none, (.len (.t 44))⟩, ⟨(some 46), none, (.bin .add (.t 42) (.t 45))⟩, ⟨(some 47), none, (.bin .lss (.t 39) (.t 46))⟩]) (.cond (.t 47) .skip (.exit 2))) (.seq (.block 3 (.seq (.ops [⟨(some 12), none, (.mv (.c (.int .i64 0)))⟩]) (.seq (.seq (.ops [⟨(some 50), none, (.mv (.t 11))⟩, ⟨(some 51), none, (.fld 1 (.t 3))⟩, ⟨(some 52), none, (.ld false 1 (.t 51))⟩, ⟨(some 53), none, (.len (.t 52))⟩, ⟨(some 54), none, (.bin .lss (.t 50) (.t 53))⟩]) (.cond (.t 54) (.ops [⟨(some 55), none, (.fld 1 (.t 3))⟩, ⟨(some 56), none, (.ld false 1 (.t 55))⟩, ⟨(some 57), none, (.mv (.t 11))⟩, ⟨(some 58), none, (.ix 2 (.t 56) (.t 57))⟩, ⟨(some 59), none, (.fld 0 (.t 58))⟩, ⟨(some 60), none, (.ld false 1 (.t 59))⟩, ⟨(some 12), none, (.mv (.t 60))⟩]) (.ops [⟨(some 61), none, (.fld 1 (.t 4))⟩, ⟨(some 62), none, (.ld false 1 (.t 61))⟩, ⟨(some 63), none, (.mv (.t 11))⟩, ⟨(some 64), none, (.fld 1 (.t 3))⟩, ⟨(some 65), none, (.ld false 1 (.t 64))⟩, ⟨(some 66), none, (.len (.t 65))⟩, ⟨(some 67), none, (.bin .sub (.t 63) (.t 66))⟩, ⟨(some 68), none, (.ix 2 (.t 62) (.t 67))⟩, ⟨(some 69), none, (.fld 0 (.t 68))⟩, ⟨(some 70), none, (.ld false 1 (.t 69))⟩, ⟨(some 12), none, (.mv (.t 70))⟩]))) (.seq (.draw (.q false ⟨(some 71), none, (.ld true 9 (.t 3))⟩ (.q false ⟨(some 72), none, (.mv (.t 12))⟩ (.q false ⟨(some 74), none, (.ld true 9 (.t 4))⟩ (.q false ⟨(some 75), none, (.mv (.t 12))⟩ (.q false ⟨(some 77), none, (.mv (.t 7))⟩ (.op ⟨(some 73), none, (.call false 29 [(.t 71), (.t 72)])⟩ (.op ⟨(some 76), none, (.call false 29 [(.t 74), (.t 75)])⟩ (.op ⟨(some 78), none, (.call false 48 [(.t 73), (.t 76), (.t 77)])⟩ (.q false ⟨(some 79), none, (.nt (.t 78))⟩ .nil)))))))))) (.cond (.t 79) (.seq (.ops [⟨(some 6), none, (.mv (.c (.int .i64 20)))⟩]) .ret) .skip))))) (.ops [⟨(some 48), none, (.mv (.t 11))⟩, ⟨(some 49), none, (.bin .add (.t 48) (.c (.int .i64 1)))⟩, ⟨(some 11), none, (.mv (.t 49))⟩])))))) (.seq (.seq (.ops [⟨(some 13), none, (.mv (.c (.int .i64 0)))⟩]) (.block 4 (.loop (.seq (.seq (.ops [⟨(some 80), none, (.mv (.t 13))⟩, ⟨(some 81), none, (.fld 0 (.t 3))⟩, ⟨(some 82), none, (.ld false 1 (.t 81))⟩, ⟨(some 83), none, (.len (.t 82))⟩, ⟨(some 84), none, (.bin .lss (.t 80) (.t 83))⟩]) (.cond (.t 84) .skip (.exit 4))) (.seq (.block 5 (.seq (.draw (.q false ⟨(some 87), none, (.ld true 9 (.t 3))⟩ (.q false ⟨(some 88), none, (.ld true 9 (.t 4))⟩ (.q false ⟨(some 89), none, (.fld 0 (.t 3))⟩ (.q false ⟨(some 90), none, (.ld false 1 (.t 89))⟩ (.q false ⟨(some 91), none, (.mv (.t 13))⟩ (.q false ⟨(some 92), none, (.ix 2 (.t 90) (.t 91))⟩ (.q false ⟨(some 93), none, (.fld 0 (.t 92))⟩ (.q false ⟨(some 94), none, (.ld false 1 (.t 93))⟩ (.q false ⟨(some 95), none, (.mv (.t 2))⟩ (.op ⟨(some 96), none, (.call false 49 [(.t 87), (.t 88), (.t 94), (.t 95)])⟩ (.q false ⟨(some 97), none, (.nt (.t 96))⟩ .nil)))))))))))) (.cond (.t 97) (.seq (.ops [⟨(some 6), none, (.mv (.c (.int .i64 20)))⟩]) .ret) .skip))) (.ops [⟨(some 85), none, (.mv (.t 13))⟩, ⟨(some 86), none, (.bin .add (.t 85) (.c (.int .i64 1)))⟩, ⟨(some 13), none, (.mv (.t 86))⟩])))))) (.seq (.seq (.ops [⟨(some 14), none, (.mv (.c (.int .i64 0)))⟩]) (.block 6 (.loop (.seq (.seq (.ops [⟨(some 98), none, (.mv (.t 14))⟩, ⟨(some 99), none, (.fld 0 (.t 4))⟩, ⟨(some 100), none, (.ld false 1 (.t 99))⟩, ⟨(some 101), none, (.len (.t 100))⟩, ⟨(some 102), none, (.bin .lss (.t 98) (.t 101))⟩]) (.cond (.t 102) .skip (.exit 6))) (.seq (.block 7 (.seq (.draw (.q false ⟨(some 105), none, (.ld true 9 (.t 3))⟩ (.q false ⟨(some 106), none, (.ld true 9 (.t 4))⟩ (.q false ⟨(some 107), none, (.fld 0 (.t 4))⟩ (.q false ⟨(some 108), none, (.ld false 1 (.t 107))⟩ (.q false ⟨(some 109), none, (.mv (.t 14))⟩ (.q false ⟨(some 110), none, (.ix 2 (.t 108) (.t 109))⟩ (.q false ⟨(some 111), none, (.fld 0 (.t 110))⟩ (.q false ⟨(some 112), none, (.ld false 1 (.t 111))⟩ (.q false ⟨(some 113), none, (.mv (.t 2))⟩ (.op ⟨(some 114), none, (.call false 49 [(.t 105), (.t 106), (.t 112), (.t 113)])⟩ (.q false ⟨(some 115), none, (.nt (.t 114))⟩ .nil)))))))))))) (.cond (.t 115) (.seq (.ops [⟨(some 6), none, (.mv (.c (.int .i64 20)))⟩]) .ret) .skip))) (.ops [⟨(some 103), none, (.mv (.t 14))⟩, ⟨(some 104), none, (.bin .add (.t 103) (.c (.int .i64 1)))⟩, ⟨(some 14), none, (.mv (.t 104))⟩])))))) (.seq (.ops [⟨(some 6), none, (.mv (.c (.int .i64 0)))⟩]) .ret))))))))
theorem tr36 : Try.f36.body.bind (trCode Try.prog) = some (strip ac36) := by kernel_rfl
theorem spec36 (old new : Lv) (user : List UInt8) (hk : old.kinds.length ≤ 1000 ∧ new.kinds.length ≤ 1000) : Spec Try.prog 36 [.fz (.agg (encLv old)), .fz (.agg (encLv new)), .fz (.str user)] (.fz (.int .i64 (chgR old new user))) := by
  refine spec_at (n := 113) (ars := [(.t 6)]) (ac := ac36) Try.func36 (by kernel_rfl) (by kernel_rfl) tr36 (by kernel_rfl) ?_
  unfold ac36
  obtain ⟨hk1, hk2⟩ := hk
  iterate 12 (all_goals (try (first
    | ((with_reducible refine of_kSpec ?_); refine call_fz (spec27 old user) rfl ?_)
    | ((with_reducible refine of_kSpec ?_); refine call_fz (spec42 old) rfl ?_)
    | ((with_reducible refine of_kSpec ?_); refine call_fz (spec42 new) rfl ?_)
    | (with_reducible refine ite_in (fun _ => ?_) (fun _ => ?_))
    | (with_reducible refine ⟨fun _ => ?_, fun _ => ?_⟩)
    | (with_reducible refine And.intro ?_ ?_)
    | (with_reducible intro _)
    | (with_reducible exact is_in _)
    | (simp -implicitDefEqProofs only [SD, SF, SL, e_nf, reduceCtorEq, implies_true, ↓reduceIte, Nat.reduceEqDiff, Nat.reduceAdd, Nat.reduceMul, Nat.reduceSub, Nat.reduceLeDiff, Nat.reduceLT, Int.reduceLT, Int.reduceLE, Int.reduceEq, Int.reduceToNat, Int.reduceAdd, Int.reduceSub, Int.reduceNeg, Int.reduceBEq, Int.reduceBNe, Nat.reduceBEq, Int.cast_ofNat_Int, decide_true, decide_false, ne_eq, eq_self_iff_true, beq_eq_false_iff_ne, bne_iff_ne, List.replicate, encLv, nums, *]))))
  refine loop_u 8 ?_
  iterate 90 (all_goals (try (first
    | (with_reducible refine unr_next ?_)
    | ((with_reducible refine of_kSpec ?_); refine call_fz (spec48 _ _ _) rfl ?_)
    | (with_reducible refine ite_in (fun _ => ?_) (fun _ => ?_))
    | (with_reducible refine ⟨fun _ => ?_, fun _ => ?_⟩)
    | (with_reducible refine And.intro ?_ ?_)
    | (with_reducible intro _)
    | (with_reducible exact is_in _)
    | ((with_reducible refine eq_in ?_); (exact (chgR_N (by simp_all [okNs, userV])).symm); done)
    | (simp -implicitDefEqProofs only [SD, SF, SL, e_nf, reduceCtorEq, implies_true, ↓reduceIte, Nat.reduceEqDiff, Nat.reduceAdd, Nat.reduceMul, Nat.reduceSub, Nat.reduceLeDiff, Nat.reduceLT, Int.reduceLT, Int.reduceLE, Int.reduceEq, Int.reduceToNat, Int.reduceAdd, Int.reduceSub, Int.reduceNeg, Int.reduceBEq, Int.reduceBNe, Nat.reduceBEq, Int.cast_ofNat_Int, decide_true, decide_false, ne_eq, eq_self_iff_true, beq_eq_false_iff_ne, bne_iff_ne, List.replicate, nums, wr_lit, *]))))
  have hN : okNs old new user = true := by simp_all [okNs, userV]
  have hs : IntKind.i64.wrap ((old.kinds.length : Int) + new.kinds.length) = ((old.kinds ++ new.kinds).length : Nat) := by
    rw [List.length_append, Int.natCast_add]
    exact wrap_in (by omega) (by omega)
  refine loop_q (X := List LK × List LK × Unit) (fun n x => (old.kinds ++ new.kinds) = x.1 ++ x.2.1 ∧ n = x.2.1.length ∧ (x.1.all (okK old new user) = true)) (fun x => [(11, .int .i64 x.1.length)]) (fun _ => []) [6, 12, 39, 40, 41, 42, 43, 44, 45, 46, 47, 48, 49, 50, 51, 52, 53, 54, 55, 56, 57, 58, 59, 60, 61, 62, 63, 64, 65, 66, 67, 68, 69, 70, 71, 72, 73, 74, 75, 76, 77, 78, 79] [] ((old.kinds ++ new.kinds)).length ([], (old.kinds ++ new.kinds), ()) ⟨rfl, rfl, by first | rfl | exact all_snoc hI2 (by simp_all [okK, userV])⟩ ?_ ?_
  · simp -implicitDefEqProofs only [SD, SF, SL, e_nf, reduceCtorEq, implies_true, ↓reduceIte, Nat.reduceEqDiff, Nat.reduceAdd, Nat.reduceMul, Nat.reduceSub, Nat.reduceLeDiff, Nat.reduceLT, Int.reduceLT, Int.reduceLE, Int.reduceEq, Int.reduceToNat, Int.reduceAdd, Int.reduceSub, Int.reduceNeg, Int.reduceBEq, Int.reduceBNe, Nat.reduceBEq, Int.cast_ofNat_Int, decide_true, decide_false, ne_eq, eq_self_iff_true, beq_eq_false_iff_ne, bne_iff_ne, List.replicate, encLv, hs] <;> simp
  · rintro n ⟨pre2, rest2, a2⟩ ⟨he2, rfl, hI2⟩
    dsimp only at he2 hI2
    cases rest2 with
    | nil =>
      obtain rfl : (old.kinds ++ new.kinds) = pre2 := by simpa using he2
      clear he2
      have hlt2 : ¬ ((((old.kinds ++ new.kinds)).length : Int) < (((old.kinds ++ new.kinds)).length : Int)) := Int.lt_irrefl _
      iterate 30 (all_goals (try (first
        | ((with_reducible refine of_kSpec ?_); refine call_fz (spec29 old x2.kind) rfl ?_)
        | ((with_reducible refine of_kSpec ?_); refine call_fz (spec29 new x2.kind) rfl ?_)
        | ((with_reducible refine of_kSpec ?_); refine call_fz (spec48 _ _ _) rfl ?_)
        | (with_reducible refine ite_in (fun _ => ?_) (fun _ => ?_))
        | (with_reducible refine ⟨fun _ => ?_, fun _ => ?_⟩)
        | (with_reducible refine And.intro ?_ ?_)
        | (with_reducible intro _)
        | (with_reducible exact is_in _)
        | ((with_reducible refine eq_in ?_); (exact (chgR_K (all_cut he2.out (by simp_all [okK, userV]))).symm); done)
        | (simp -implicitDefEqProofs only [SD, SF, SL, e_nf, reduceCtorEq, implies_true, ↓reduceIte, Nat.reduceEqDiff, Nat.reduceAdd, Nat.reduceMul, Nat.reduceSub, Nat.reduceLeDiff, Nat.reduceLT, Int.reduceLT, Int.reduceLE, Int.reduceEq, Int.reduceToNat, Int.reduceAdd, Int.reduceSub, Int.reduceNeg, Int.reduceBEq, Int.reduceBNe, Nat.reduceBEq, Int.cast_ofNat_Int, decide_true, decide_false, ne_eq, eq_self_iff_true, beq_eq_false_iff_ne, bne_iff_ne, List.replicate, encLv, hs, *]))))
      refine loop_q (X := List LU × List LU × Unit) (fun n x => old.users = x.1 ++ x.2.1 ∧ n = x.2.1.length ∧ (x.1.all (okX old new user) = true)) (fun x => [(13, .int .i64 x.1.length)]) (fun _ => []) [6, 80, 81, 82, 83, 84, 85, 86, 87, 88, 89, 90, 91, 92, 93, 94, 95, 96, 97] [] (old.users).length ([], old.users, ()) ⟨rfl, rfl, by first | rfl | exact all_snoc hI3 (by simp_all [okX])⟩ ?_ ?_
      · simp -implicitDefEqProofs only [SD, SF, SL, e_nf, reduceCtorEq, implies_true, ↓reduceIte, Nat.reduceEqDiff, Nat.reduceAdd, Nat.reduceMul, Nat.reduceSub, Nat.reduceLeDiff, Nat.reduceLT, Int.reduceLT, Int.reduceLE, Int.reduceEq, Int.reduceToNat, Int.reduceAdd, Int.reduceSub, Int.reduceNeg, Int.reduceBEq, Int.reduceBNe, Nat.reduceBEq, Int.cast_ofNat_Int, decide_true, decide_false, ne_eq, eq_self_iff_true, beq_eq_false_iff_ne, bne_iff_ne, List.replicate, encLv] <;> simp
      · rintro n ⟨pre3, rest3, a3⟩ ⟨he3, rfl, hI3⟩
        dsimp only at he3 hI3
        cases rest3 with
        | nil =>
          obtain rfl : old.users = pre3 := by simpa using he3
          clear he3
          have hlt3 : ¬ (((old.users).length : Int) < ((old.users).length : Int)) := Int.lt_irrefl _
          iterate 30 (all_goals (try (first
            | ((with_reducible refine of_kSpec ?_); refine call_fz (spec49 old new x3.user user) rfl ?_)
            | (with_reducible refine ite_in (fun _ => ?_) (fun _ => ?_))
            | (with_reducible refine ⟨fun _ => ?_, fun _ => ?_⟩)
            | (with_reducible refine And.intro ?_ ?_)
            | (with_reducible intro _)
            | (with_reducible exact is_in _)
            | ((with_reducible refine eq_in ?_); (exact (chgR_U1 (all_cut he3.out (by simp_all [okX]))).symm); done)
            | (simp -implicitDefEqProofs only [SD, SF, SL, e_nf, reduceCtorEq, implies_true, ↓reduceIte, Nat.reduceEqDiff, Nat.reduceAdd, Nat.reduceMul, Nat.reduceSub, Nat.reduceLeDiff, Nat.reduceLT, Int.reduceLT, Int.reduceLE, Int.reduceEq, Int.reduceToNat, Int.reduceAdd, Int.reduceSub, Int.reduceNeg, Int.reduceBEq, Int.reduceBNe, Nat.reduceBEq, Int.cast_ofNat_Int, decide_true, decide_false, ne_eq, eq_self_iff_true, beq_eq_false_iff_ne, bne_iff_ne, List.replicate, encLv, *]))))
          refine loop_q (X := List LU × List LU × Unit) (fun n x => new.users = x.1 ++ x.2.1 ∧ n = x.2.1.length ∧ (x.1.all (okX old new user) = true)) (fun x => [(14, .int .i64 x.1.length)]) (fun _ => []) [6, 98, 99, 100, 101, 102, 103, 104, 105, 106, 107, 108, 109, 110, 111, 112, 113, 114, 115] [] (new.users).length ([], new.users, ()) ⟨rfl, rfl, by first | rfl | exact all_snoc hI4 (by simp_all [okX])⟩ ?_ ?_
          · simp -implicitDefEqProofs only [SD, SF, SL, e_nf, reduceCtorEq, implies_true, ↓reduceIte, Nat.reduceEqDiff, Nat.reduceAdd, Nat.reduceMul, Nat.reduceSub, Nat.reduceLeDiff, Nat.reduceLT, Int.reduceLT, Int.reduceLE, Int.reduceEq, Int.reduceToNat, Int.reduceAdd, Int.reduceSub, Int.reduceNeg, Int.reduceBEq, Int.reduceBNe, Nat.reduceBEq, Int.cast_ofNat_Int, decide_true, decide_false, ne_eq, eq_self_iff_true, beq_eq_false_iff_ne, bne_iff_ne, List.replicate, encLv] <;> simp
          · rintro n ⟨pre4, rest4, a4⟩ ⟨he4, rfl, hI4⟩
            dsimp only at he4 hI4
            cases rest4 with
            | nil =>
              obtain rfl : new.users = pre4 := by simpa using he4
              clear he4
              have hlt4 : ¬ (((new.users).length : Int) < ((new.users).length : Int)) := Int.lt_irrefl _
              iterate 30 (all_goals (try (first
                | ((with_reducible refine of_kSpec ?_); refine call_fz (spec49 old new x4.user user) rfl ?_)
                | (with_reducible refine ite_in (fun _ => ?_) (fun _ => ?_))
                | (with_reducible refine ⟨fun _ => ?_, fun _ => ?_⟩)
                | (with_reducible refine And.intro ?_ ?_)
                | (with_reducible intro _)
                | (with_reducible exact is_in _)
                | ((with_reducible refine eq_in ?_); (exact (chgR_U2 (all_cut he4.out (by simp_all [okX]))).symm); done)
                | (simp -implicitDefEqProofs only [SD, SF, SL, e_nf, reduceCtorEq, implies_true, ↓reduceIte, Nat.reduceEqDiff, Nat.reduceAdd, Nat.reduceMul, Nat.reduceSub, Nat.reduceLeDiff, Nat.reduceLT, Int.reduceLT, Int.reduceLE, Int.reduceEq, Int.reduceToNat, Int.reduceAdd, Int.reduceSub, Int.reduceNeg, Int.reduceBEq, Int.reduceBNe, Nat.reduceBEq, Int.cast_ofNat_Int, decide_true, decide_false, ne_eq, eq_self_iff_true, beq_eq_false_iff_ne, bne_iff_ne, List.replicate, encLv, *]))))
              exact (chgR_ok hN (by simp_all) (by simp_all) hI3 hI4).symm
            | cons x4 rest4 =>
              have hlt4 := cut_lt he4
              have hx4 := cutD encLU he4
              simp only [encLU] at hx4
              simp -implicitDefEqProofs only [SD, SF, SL, e_nf, reduceCtorEq, implies_true, ↓reduceIte, Nat.reduceEqDiff, Nat.reduceAdd, Nat.reduceMul, Nat.reduceSub, Nat.reduceLeDiff, Nat.reduceLT, Int.reduceLT, Int.reduceLE, Int.reduceEq, Int.reduceToNat, Int.reduceAdd, Int.reduceSub, Int.reduceNeg, Int.reduceBEq, Int.reduceBNe, Nat.reduceBEq, Int.cast_ofNat_Int, decide_true, decide_false, ne_eq, eq_self_iff_true, beq_eq_false_iff_ne, bne_iff_ne, List.replicate, encLv, hlt4]
              intro hl
              have hw4 := wrap_len (n := pre4.length) (m := (new.users).length) (cut_lt' he4) (by simpa using hl)
              replace he4 := Hd.mk he4
              iterate 30 (all_goals (try (first
                | ((with_reducible refine back_in rest4.length [6, 98, 99, 100, 101, 102, 103, 104, 105, 106, 107, 108, 109, 110, 111, 112, 113, 114, 115] [] (pre4 ++ [x4], rest4, a4) ?_ ⟨?_, ?_, ?_⟩ ?_)
                   · simp
                   · exact cut_snoc he4.out
                   · rfl
                   · first | rfl | exact all_snoc hI4 (by simp_all [okX])
                   · first | (simp -implicitDefEqProofs only [SD, SF, SL, e_nf, reduceCtorEq, implies_true, ↓reduceIte, Nat.reduceEqDiff, Nat.reduceAdd, Nat.reduceMul, Nat.reduceSub, Nat.reduceLeDiff, Nat.reduceLT, Int.reduceLT, Int.reduceLE, Int.reduceEq, Int.reduceToNat, Int.reduceAdd, Int.reduceSub, Int.reduceNeg, Int.reduceBEq, Int.reduceBNe, Nat.reduceBEq, Int.cast_ofNat_Int, decide_true, decide_false, ne_eq, eq_self_iff_true, beq_eq_false_iff_ne, bne_iff_ne, List.replicate, encLv] <;> simp <;> done) | (simp -implicitDefEqProofs only [SD, SF, SL, e_nf, reduceCtorEq, implies_true, ↓reduceIte, Nat.reduceEqDiff, Nat.reduceAdd, Nat.reduceMul, Nat.reduceSub, Nat.reduceLeDiff, Nat.reduceLT, Int.reduceLT, Int.reduceLE, Int.reduceEq, Int.reduceToNat, Int.reduceAdd, Int.reduceSub, Int.reduceNeg, Int.reduceBEq, Int.reduceBNe, Nat.reduceBEq, Int.cast_ofNat_Int, decide_true, decide_false, ne_eq, eq_self_iff_true, beq_eq_false_iff_ne, bne_iff_ne, List.replicate, encLv, *] <;> simp_all <;> done))
                | ((with_reducible refine of_kSpec ?_); refine call_fz (spec49 old new x4.user user) rfl ?_)
                | (with_reducible refine ite_in (fun _ => ?_) (fun _ => ?_))
                | (with_reducible refine ⟨fun _ => ?_, fun _ => ?_⟩)
                | (with_reducible refine And.intro ?_ ?_)
                | (with_reducible intro _)
                | (with_reducible exact is_in _)
                | ((with_reducible refine eq_in ?_); (exact (chgR_U2 (all_cut he4.out (by simp_all [okX]))).symm); done)
                | (simp -implicitDefEqProofs only [SD, SF, SL, e_nf, reduceCtorEq, implies_true, ↓reduceIte, Nat.reduceEqDiff, Nat.reduceAdd, Nat.reduceMul, Nat.reduceSub, Nat.reduceLeDiff, Nat.reduceLT, Int.reduceLT, Int.reduceLE, Int.reduceEq, Int.reduceToNat, Int.reduceAdd, Int.reduceSub, Int.reduceNeg, Int.reduceBEq, Int.reduceBNe, Nat.reduceBEq, Int.cast_ofNat_Int, decide_true, decide_false, ne_eq, eq_self_iff_true, beq_eq_false_iff_ne, bne_iff_ne, List.replicate, encLv, *]))))
        | cons x3 rest3 =>
          have hlt3 := cut_lt he3
          have hx3 := cutD encLU he3
          simp only [encLU] at hx3
          simp -implicitDefEqProofs only [SD, SF, SL, e_nf, reduceCtorEq, implies_true, ↓reduceIte, Nat.reduceEqDiff, Nat.reduceAdd, Nat.reduceMul, Nat.reduceSub, Nat.reduceLeDiff, Nat.reduceLT, Int.reduceLT, Int.reduceLE, Int.reduceEq, Int.reduceToNat, Int.reduceAdd, Int.reduceSub, Int.reduceNeg, Int.reduceBEq, Int.reduceBNe, Nat.reduceBEq, Int.cast_ofNat_Int, decide_true, decide_false, ne_eq, eq_self_iff_true, beq_eq_false_iff_ne, bne_iff_ne, List.replicate, encLv, hlt3]
          intro hl
          have hw3 := wrap_len (n := pre3.length) (m := (old.users).length) (cut_lt' he3) (by simpa using hl)
          replace he3 := Hd.mk he3
          iterate 30 (all_goals (try (first
            | ((with_reducible refine back_in rest3.length [6, 80, 81, 82, 83, 84, 85, 86, 87, 88, 89, 90, 91, 92, 93, 94, 95, 96, 97] [] (pre3 ++ [x3], rest3, a3) ?_ ⟨?_, ?_, ?_⟩ ?_)
               · simp
               · exact cut_snoc he3.out
               · rfl
               · first | rfl | exact all_snoc hI3 (by simp_all [okX])
               · first | (simp -implicitDefEqProofs only [SD, SF, SL, e_nf, reduceCtorEq, implies_true, ↓reduceIte, Nat.reduceEqDiff, Nat.reduceAdd, Nat.reduceMul, Nat.reduceSub, Nat.reduceLeDiff, Nat.reduceLT, Int.reduceLT, Int.reduceLE, Int.reduceEq, Int.reduceToNat, Int.reduceAdd, Int.reduceSub, Int.reduceNeg, Int.reduceBEq, Int.reduceBNe, Nat.reduceBEq, Int.cast_ofNat_Int, decide_true, decide_false, ne_eq, eq_self_iff_true, beq_eq_false_iff_ne, bne_iff_ne, List.replicate, encLv] <;> simp <;> done) | (simp -implicitDefEqProofs only [SD, SF, SL, e_nf, reduceCtorEq, implies_true, ↓reduceIte, Nat.reduceEqDiff, Nat.reduceAdd, Nat.reduceMul, Nat.reduceSub, Nat.reduceLeDiff, Nat.reduceLT, Int.reduceLT, Int.reduceLE, Int.reduceEq, Int.reduceToNat, Int.reduceAdd, Int.reduceSub, Int.reduceNeg, Int.reduceBEq, Int.reduceBNe, Nat.reduceBEq, Int.cast_ofNat_Int, decide_true, decide_false, ne_eq, eq_self_iff_true, beq_eq_false_iff_ne, bne_iff_ne, List.replicate, encLv, *] <;> simp_all <;> done))
            | ((with_reducible refine of_kSpec ?_); refine call_fz (spec49 old new x3.user user) rfl ?_)
            | (with_reducible refine ite_in (fun _ => ?_) (fun _ => ?_))
            | (with_reducible refine ⟨fun _ => ?_, fun _ => ?_⟩)
            | (with_reducible refine And.intro ?_ ?_)
            | (with_reducible intro _)
            | (with_reducible exact is_in _)
            | ((with_reducible refine eq_in ?_); (exact (chgR_U1 (all_cut he3.out (by simp_all [okX]))).symm); done)
            | (simp -implicitDefEqProofs only [SD, SF, SL, e_nf, reduceCtorEq, implies_true, ↓reduceIte, Nat.reduceEqDiff, Nat.reduceAdd, Nat.reduceMul, Nat.reduceSub, Nat.reduceLeDiff, Nat.reduceLT, Int.reduceLT, Int.reduceLE, Int.reduceEq, Int.reduceToNat, Int.reduceAdd, Int.reduceSub, Int.reduceNeg, Int.reduceBEq, Int.reduceBNe, Nat.reduceBEq, Int.cast_ofNat_Int, decide_true, decide_false, ne_eq, eq_self_iff_true, beq_eq_false_iff_ne, bne_iff_ne, List.replicate, encLv, *]))))
    | cons x2 rest2 =>
      have hlt2 := cut_lt he2
      have hx2 := cutD encLK he2
      simp only [encLK] at hx2
      have hw2 := wrap_len (n := pre2.length) (m := ((old.kinds ++ new.kinds)).length) (cut_lt' he2) (by rw [List.length_append]; simp only [maxLen]; omega)
      replace he2 := Hd.mk he2
      have hE : (old.kinds.map encLK ++ new.kinds.map encLK).getD pre2.length [] = encLK x2 := by
        rw [← List.map_append]
        exact cutD encLK he2.out
      have hL := cut_lt' he2.out
      rw [List.length_append] at hL
      have hA : (pre2.length : Int) < old.kinds.length → (old.kinds.map encLK).getD pre2.length [] = [.int .i64 x2.kind, .int .i64 x2.n] := by
        intro hc
        simp only [List.getD_eq_getElem?_getD] at hE ⊢
        rw [List.getElem?_append_left (by simp; omega)] at hE
        exact hE
      have hB : ¬ (pre2.length : Int) < old.kinds.length → (new.kinds.map encLK).getD (pre2.length - old.kinds.length) [] = [.int .i64 x2.kind, .int .i64 x2.n] := by
        intro hc
        simp only [List.getD_eq_getElem?_getD] at hE ⊢
        rw [List.getElem?_append_right (by simp; omega), List.length_map] at hE
        exact hE
      have hC : ¬ (pre2.length : Int) < old.kinds.length → IntKind.i64.wrap ((pre2.length : Int) - old.kinds.length) = ((pre2.length - old.kinds.length : Nat) : Int) := by
        intro hc
        rw [wrap_in (by omega) (by omega)]
        omega
      have hD : ¬ (pre2.length : Int) < old.kinds.length → ((pre2.length - old.kinds.length : Nat) : Int) < new.kinds.length := by
        intro hc
        omega
      clear hE hL hx2
      iterate 30 (all_goals (try (first
        | ((with_reducible refine back_in rest2.length [6, 12, 39, 40, 41, 42, 43, 44, 45, 46, 47, 48, 49, 50, 51, 52, 53, 54, 55, 56, 57, 58, 59, 60, 61, 62, 63, 64, 65, 66, 67, 68, 69, 70, 71, 72, 73, 74, 75, 76, 77, 78, 79] [] (pre2 ++ [x2], rest2, a2) ?_ ⟨?_, ?_, ?_⟩ ?_)
           · simp
           · exact cut_snoc he2.out
           · rfl
           · first | rfl | exact all_snoc hI2 (by simp_all [okK, userV])
           · first | (simp -implicitDefEqProofs only [SD, SF, SL, e_nf, reduceCtorEq, implies_true, ↓reduceIte, Nat.reduceEqDiff, Nat.reduceAdd, Nat.reduceMul, Nat.reduceSub, Nat.reduceLeDiff, Nat.reduceLT, Int.reduceLT, Int.reduceLE, Int.reduceEq, Int.reduceToNat, Int.reduceAdd, Int.reduceSub, Int.reduceNeg, Int.reduceBEq, Int.reduceBNe, Nat.reduceBEq, Int.cast_ofNat_Int, decide_true, decide_false, ne_eq, eq_self_iff_true, beq_eq_false_iff_ne, bne_iff_ne, List.replicate, encLv, hs] <;> simp <;> done) | (simp -implicitDefEqProofs only [SD, SF, SL, e_nf, reduceCtorEq, implies_true, ↓reduceIte, Nat.reduceEqDiff, Nat.reduceAdd, Nat.reduceMul, Nat.reduceSub, Nat.reduceLeDiff, Nat.reduceLT, Int.reduceLT, Int.reduceLE, Int.reduceEq, Int.reduceToNat, Int.reduceAdd, Int.reduceSub, Int.reduceNeg, Int.reduceBEq, Int.reduceBNe, Nat.reduceBEq, Int.cast_ofNat_Int, decide_true, decide_false, ne_eq, eq_self_iff_true, beq_eq_false_iff_ne, bne_iff_ne, List.replicate, encLv, hs, *] <;> simp_all <;> done))
        | ((with_reducible refine of_kSpec ?_); refine call_fz (spec29 old x2.kind) rfl ?_)
        | ((with_reducible refine of_kSpec ?_); refine call_fz (spec29 new x2.kind) rfl ?_)
        | ((with_reducible refine of_kSpec ?_); refine call_fz (spec48 _ _ _) rfl ?_)
        | (with_reducible refine ite_in (fun _ => ?_) (fun _ => ?_))
        | (with_reducible refine ⟨fun _ => ?_, fun _ => ?_⟩)
        | (with_reducible refine And.intro ?_ ?_)
        | (with_reducible intro _)
        | (with_reducible exact is_in _)
        | ((with_reducible refine eq_in ?_); (exact (chgR_K (all_cut he2.out (by simp_all [okK, userV]))).symm); done)
        | (simp -implicitDefEqProofs only [SD, SF, SL, e_nf, reduceCtorEq, implies_true, ↓reduceIte, Nat.reduceEqDiff, Nat.reduceAdd, Nat.reduceMul, Nat.reduceSub, Nat.reduceLeDiff, Nat.reduceLT, Int.reduceLT, Int.reduceLE, Int.reduceEq, Int.reduceToNat, Int.reduceAdd, Int.reduceSub, Int.reduceNeg, Int.reduceBEq, Int.reduceBNe, Nat.reduceBEq, Int.cast_ofNat_Int, decide_true, decide_false, ne_eq, eq_self_iff_true, beq_eq_false_iff_ne, bne_iff_ne, List.replicate, encLv, hs, *]))))

end Go.Proofs.Ythackanfbemabaa.E
