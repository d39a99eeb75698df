/-
  RbG: walks of functions of the program at data level.
-/
import Derived.Test.YthackanfbemabaaProg
import Derived.Test.YthackanfbemabaaEngZ
import Derived.Test.YthackanfbemabaaRbF
import Derived.KernelRfl
set_option linter.unusedVariables false
set_option linter.unusedSimpArgs false
namespace Go.Proofs.Ythackanfbemabaa.E
open Go
set_option maxHeartbeats 4000000
set_option maxRecDepth 100000
set_option linter.unusedSimpArgs false
set_option linter.unusedVariables false
attribute [local congr] c_wp c_ops c_op c_opS c_run c_runS c_dt c_seq c_blk c_loop c_S c_put c_bind c_mv c_pick c_nt c_ng c_bin c_binI c_binS c_beq c_B c_eqa c_hd c_cells c_blkK c_box c_vec c_take c_ld c_ldF c_cellsK c_st c_fld c_fldv c_ix c_ixp c_ixv c_ixs c_sub c_subs c_len c_lens c_src c_dst c_ow c_app c_ext c_mm c_conv c_str c_isn c_fill c_rows c_boxo c_frz c_frzO c_frzA c_frzV c_spec c_specO c_fz c_fn c_gv c_cond c_res1 c_resL c_ret c_qret c_ite c_unr c_nx c_bk c_cut c_is
attribute [local irreducible] dwp

def ann : List UInt8 := [64, 97, 110, 110, 58, 97]
def bob : List UInt8 := [64, 98, 111, 98, 58, 97]
def aw0 : Lv := ⟨[⟨ann, 100⟩, ⟨bob, 50⟩], [], 0, 0, 0, 0, 0, 0, 0⟩
def aw1 : Lv := ⟨[⟨ann, 100⟩, ⟨bob, 50⟩], [], 0, 0, 0, 0, 50, 0, 0⟩
def aw2 : Lv := ⟨[⟨ann, 100⟩, ⟨bob, 50⟩], [], 0, 0, 0, 0, 51, 0, 0⟩
theorem aw_l : levelsL [] = dflt [] := rfl
theorem aw_c : creatorL [] = [] := rfl
theorem aw_u : userL (dflt ann).users ann (dflt ann).a2 = 100 := by decide
theorem aw_n : needs (dflt ann) 7 = 0 := by decide
theorem aw_b : userL aw0.users bob aw0.a2 = 50 := by decide
theorem aw_1 : chgR aw0 aw1 bob = 0 := by decide
theorem aw_2 : chgR aw0 aw2 bob = 20 := by decide
theorem aw_3 : decide (aw0 = aw0) = true := by simp
theorem aw_4 : decide (aw0 = aw1) = false := by simp [aw0, aw1]
def ac16 : AC := (.seq (.ops [⟨(some 2), none, (.mv (.c (.int .i64 0)))⟩, ⟨(some 3), none, (.mv (.c .e0))⟩]) (.seq (.seq (.ops [⟨(some 4), none, (.mv (.c (.int .i64 0)))⟩]) (.block 0 (.loop (.seq (.seq (.ops [⟨(some 5), none, (.mv (.t 4))⟩, ⟨(some 6), none, (.mv (.t 0))⟩, ⟨(some 7), none, (.len (.t 6))⟩, ⟨(some 8), none, (.bin .lss (.t 5) (.t 7))⟩]) (.cond (.t 8) .skip (.exit 0))) (.seq (.block 1 (.seq (.ops [⟨(some 11), none, (.mv (.t 0))⟩, ⟨(some 12), none, (.mv (.t 4))⟩, ⟨(some 13), none, (.ix 29 (.t 11) (.t 12))⟩, ⟨(some 14), none, (.fld 3 (.t 13))⟩, ⟨(some 15), none, (.ld false 1 (.t 14))⟩, ⟨(some 16), none, (.bin .eql (.t 15) (.c (.int .i64 4)))⟩]) (.cond (.t 16) (.seq (.draw (.q true ⟨(some 17), none, (.mv (.t 0))⟩ (.q true ⟨(some 18), none, (.mv (.t 4))⟩ (.q true ⟨(some 19), none, (.ix 29 (.t 17) (.t 18))⟩ (.q true ⟨(some 20), none, (.fld 10 (.t 19))⟩ (.q true ⟨(some 21), none, (.fld 1 (.t 20))⟩ (.q true ⟨(some 22), none, (.ld false 1 (.t 21))⟩ (.q false ⟨(some 24), none, (.mv (.t 0))⟩ (.q false ⟨(some 25), none, (.mv (.t 4))⟩ (.q false ⟨(some 26), none, (.ix 29 (.t 24) (.t 25))⟩ (.q false ⟨(some 27), none, (.fld 10 (.t 26))⟩ (.q false ⟨(some 28), none, (.fld 5 (.t 27))⟩ (.q false ⟨(some 29), none, (.ld false 1 (.t 28))⟩ (.op ⟨(some 23), none, (.buildSl 9 1 0 [(.str [])] [])⟩ (.op ⟨(some 30), none, (.app 9 1 16 (.t 23) (.t 29))⟩ (.q false ⟨(some 2), none, (.mv (.t 22))⟩ (.q false ⟨(some 3), none, (.mv (.t 30))⟩ .nil))))))))))))))))) .ret) .skip))) (.ops [⟨(some 9), none, (.mv (.t 4))⟩, ⟨(some 10), none, (.bin .add (.t 9) (.c (.int .i64 1)))⟩, ⟨(some 4), none, (.mv (.t 10))⟩])))))) (.seq (.ops [⟨(some 2), none, (.mv (.c (.int .i64 0)))⟩, ⟨(some 3), none, (.mv (.c .e0))⟩]) .ret)))
theorem tr16 : Try.f16.body.bind (trCode Try.prog) = some (strip ac16) := by kernel_rfl
theorem spec16 (es : List Ev) (hb : ∀ e ∈ es, e.allow.length ≤ 1000) : Spec Try.prog 16 [.fz (.sl 29 (es.map encEv))] (.fz (.tup [.int .i64 (rulesL es).1, .sl 1 ((rulesL es).2.map encS)])) := by
  refine spec_at (n := 30) (ars := [(.t 2), (.t 3)]) (ac := ac16) Try.func16 (by kernel_rfl) (by kernel_rfl) tr16 (by kernel_rfl) ?_
  unfold ac16
  simp -implicitDefEqProofs only [SD, SF, SL, e_nf, reduceCtorEq, implies_true, ↓reduceIte, Nat.reduceEqDiff, Nat.reduceAdd, Nat.reduceMul, Nat.reduceSub, Nat.reduceLeDiff, Nat.reduceLT, Int.reduceLT, Int.reduceLE, Int.reduceEq, Int.reduceToNat, Int.reduceAdd, Int.reduceSub, Int.reduceNeg, Int.reduceBEq, Int.reduceBNe, Nat.reduceBEq, Int.cast_ofNat_Int, decide_true, decide_false, ne_eq, eq_self_iff_true, beq_eq_false_iff_ne, bne_iff_ne, List.replicate]
  refine loop_q (X := List Ev × List Ev × Unit) (fun n x => es = x.1 ++ x.2.1 ∧ n = x.2.1.length ∧ (rulesL es = rulesL x.2.1)) (fun x => [(4, .int .i64 x.1.length)]) (fun _ => []) [2, 3, 5, 6, 7, 8, 9, 10, 11, 12, 13, 14, 15, 16, 17, 18, 19, 20, 21, 22, 23, 24, 25, 26, 27, 28, 29, 30] [23, 30] (es).length ([], es, ()) ⟨rfl, rfl, by first | rfl | assumption | (simp_all [rulesL]; done) | grind [rulesL]⟩ ?_ ?_
  · simp -implicitDefEqProofs only [SD, SF, SL, e_nf, reduceCtorEq, implies_true, ↓reduceIte, Nat.reduceEqDiff, Nat.reduceAdd, Nat.reduceMul, Nat.reduceSub, Nat.reduceLeDiff, Nat.reduceLT, Int.reduceLT, Int.reduceLE, Int.reduceEq, Int.reduceToNat, Int.reduceAdd, Int.reduceSub, Int.reduceNeg, Int.reduceBEq, Int.reduceBNe, Nat.reduceBEq, Int.cast_ofNat_Int, decide_true, decide_false, ne_eq, eq_self_iff_true, beq_eq_false_iff_ne, bne_iff_ne, List.replicate, rulesL] <;> simp
  · rintro n ⟨pre, rest, a⟩ ⟨he, rfl, hI⟩
    dsimp only at he hI
    cases rest with
    | nil =>
      obtain rfl : es = pre := by simpa using he
      clear he
      have hlt : ¬ (((es).length : Int) < ((es).length : Int)) := Int.lt_irrefl _
      iterate 30 (all_goals (try (first
        | (with_reducible refine ite_in (fun _ => ?_) (fun _ => ?_))
        | (with_reducible refine ⟨fun _ => ?_, fun _ => ?_⟩)
        | (with_reducible refine And.intro ?_ ?_)
        | (with_reducible intro _)
        | (with_reducible exact is_in _)
        | (simp -implicitDefEqProofs only [SD, SF, SL, e_nf, reduceCtorEq, implies_true, ↓reduceIte, Nat.reduceEqDiff, Nat.reduceAdd, Nat.reduceMul, Nat.reduceSub, Nat.reduceLeDiff, Nat.reduceLT, Int.reduceLT, Int.reduceLE, Int.reduceEq, Int.reduceToNat, Int.reduceAdd, Int.reduceSub, Int.reduceNeg, Int.reduceBEq, Int.reduceBNe, Nat.reduceBEq, Int.cast_ofNat_Int, decide_true, decide_false, ne_eq, eq_self_iff_true, beq_eq_false_iff_ne, bne_iff_ne, List.replicate, rulesL, *]))))
      all_goals (simp_all [rulesL])

    | cons x rest =>
      have hlt := cut_lt he
      have hx := cutD encEv he
      simp only [encEv] at hx
      simp -implicitDefEqProofs only [SD, SF, SL, e_nf, reduceCtorEq, implies_true, ↓reduceIte, Nat.reduceEqDiff, Nat.reduceAdd, Nat.reduceMul, Nat.reduceSub, Nat.reduceLeDiff, Nat.reduceLT, Int.reduceLT, Int.reduceLE, Int.reduceEq, Int.reduceToNat, Int.reduceAdd, Int.reduceSub, Int.reduceNeg, Int.reduceBEq, Int.reduceBNe, Nat.reduceBEq, Int.cast_ofNat_Int, decide_true, decide_false, ne_eq, eq_self_iff_true, beq_eq_false_iff_ne, bne_iff_ne, List.replicate, rulesL, hlt]
      intro hl
      have hw := wrap_len (n := pre.length) (m := (es).length) (cut_lt' he) (by simpa using hl)
      replace he := Hd.mk he
      have hbx := hb x (by rw [he.out]; simp)
      have hb1 : x.allow.length ≤ maxLen := by simp only [maxLen]; omega
      have hb2 : x.allow.length * 16 ≤ 140737488355328 := by omega
      iterate 30 (all_goals (try (first
        | ((with_reducible refine back_in rest.length [2, 3, 5, 6, 7, 8, 9, 10, 11, 12, 13, 14, 15, 16, 17, 18, 19, 20, 21, 22, 23, 24, 25, 26, 27, 28, 29, 30] [23, 30] (pre ++ [x], rest, a) ?_ ⟨?_, ?_, ?_⟩ ?_)
           · simp
           · exact cut_snoc he.out
           · rfl
           · first | rfl | assumption | (simp_all [rulesL]; done) | grind [rulesL]
           · first | (simp -implicitDefEqProofs only [SD, SF, SL, e_nf, reduceCtorEq, implies_true, ↓reduceIte, Nat.reduceEqDiff, Nat.reduceAdd, Nat.reduceMul, Nat.reduceSub, Nat.reduceLeDiff, Nat.reduceLT, Int.reduceLT, Int.reduceLE, Int.reduceEq, Int.reduceToNat, Int.reduceAdd, Int.reduceSub, Int.reduceNeg, Int.reduceBEq, Int.reduceBNe, Nat.reduceBEq, Int.cast_ofNat_Int, decide_true, decide_false, ne_eq, eq_self_iff_true, beq_eq_false_iff_ne, bne_iff_ne, List.replicate, rulesL] <;> simp <;> done) | (simp -implicitDefEqProofs only [SD, SF, SL, e_nf, reduceCtorEq, implies_true, ↓reduceIte, Nat.reduceEqDiff, Nat.reduceAdd, Nat.reduceMul, Nat.reduceSub, Nat.reduceLeDiff, Nat.reduceLT, Int.reduceLT, Int.reduceLE, Int.reduceEq, Int.reduceToNat, Int.reduceAdd, Int.reduceSub, Int.reduceNeg, Int.reduceBEq, Int.reduceBNe, Nat.reduceBEq, Int.cast_ofNat_Int, decide_true, decide_false, ne_eq, eq_self_iff_true, beq_eq_false_iff_ne, bne_iff_ne, List.replicate, rulesL, *] <;> simp_all <;> done))
        | (with_reducible refine ite_in (fun _ => ?_) (fun _ => ?_))
        | (with_reducible refine ⟨fun _ => ?_, fun _ => ?_⟩)
        | (with_reducible refine And.intro ?_ ?_)
        | (with_reducible intro _)
        | (with_reducible exact is_in _)
        | (simp -implicitDefEqProofs only [SD, SF, SL, e_nf, reduceCtorEq, implies_true, ↓reduceIte, Nat.reduceEqDiff, Nat.reduceAdd, Nat.reduceMul, Nat.reduceSub, Nat.reduceLeDiff, Nat.reduceLT, Int.reduceLT, Int.reduceLE, Int.reduceEq, Int.reduceToNat, Int.reduceAdd, Int.reduceSub, Int.reduceNeg, Int.reduceBEq, Int.reduceBNe, Nat.reduceBEq, Int.cast_ofNat_Int, decide_true, decide_false, ne_eq, eq_self_iff_true, beq_eq_false_iff_ne, bne_iff_ne, List.replicate, rulesL, *]))))
      all_goals (simp_all [rulesL])
def ac23 : AC := (.seq (.ops [⟨(some 4), none, (.mv (.c (.int .i64 0)))⟩]) (.seq (.ops [⟨(some 8), none, (.mv (.t 0))⟩, ⟨(some 9), none, (.call false 34 [(.t 8)])⟩, ⟨(some 7), none, (.mv (.t 9))⟩, ⟨(some 10), none, (.ext (.t 7) 0)⟩, ⟨(some 11), none, (.ext (.t 7) 1)⟩, ⟨(some 5), none, (.alloc [.e0, .e0, (.int .i64 0), (.int .i64 0), (.int .i64 0), (.int .i64 0), (.int .i64 0), (.int .i64 0), (.int .i64 0)])⟩, ⟨none, none, (.sto 9 (.t 5) (.t 10))⟩, ⟨(some 6), none, (.mv (.t 11))⟩]) (.seq (.seq (.draw (.q false ⟨(some 12), none, (.mv (.t 0))⟩ (.q false ⟨(some 13), none, (.mv (.t 1))⟩ (.op ⟨(some 14), none, (.call false 39 [(.t 12), (.t 13)])⟩ (.q false ⟨(some 15), none, (.bin .eql (.t 14) (.c (.int .i64 3)))⟩ (.q false ⟨(some 16), none, (.mv (.t 15))⟩ (.q false ⟨(some 17), (some (16, true)), (.ld true 9 (.t 5))⟩ (.q false ⟨(some 18), (some (16, true)), (.mv (.t 1))⟩ (.q false ⟨(some 20), (some (16, true)), (.fld 5 (.t 5))⟩ (.q false ⟨(some 21), (some (16, true)), (.ld false 1 (.t 20))⟩ (.op ⟨(some 19), (some (16, true)), (.call false 27 [(.t 17), (.t 18)])⟩ (.q false ⟨(some 22), (some (16, true)), (.bin .geq (.t 19) (.t 21))⟩ (.q false ⟨(some 23), none, (.pick (.t 16) (.t 22) (.c (.bool false)))⟩ .nil))))))))))))) (.cond (.t 23) (.seq (.ops [⟨(some 4), none, (.mv (.c (.int .i64 0)))⟩]) .ret) .skip)) (.seq (.ops [⟨(some 4), none, (.mv (.c (.int .i64 21)))⟩]) .ret))))
theorem tr23 : Try.f23.body.bind (trCode Try.prog) = some (strip ac23) := by kernel_rfl
theorem spec23 (es : List Ev) (u : List UInt8) : Spec Try.prog 23 [.fz (.sl 29 (es.map encEv)), .fz (.str u)] (.fz (.int .i64 (viaR es u))) := by
  refine spec_at (n := 22) (ars := [(.t 4)]) (ac := ac23) Try.func23 (by kernel_rfl) (by kernel_rfl) tr23 (by kernel_rfl) ?_
  unfold ac23
  iterate 30 (all_goals (try (first
    | ((with_reducible refine of_kSpec ?_); refine call_fz (spec34 es) rfl ?_)
    | ((with_reducible refine of_kSpec ?_); refine call_fz (spec39 es u) rfl ?_)
    | ((with_reducible refine of_kSpec ?_); refine call_fz (spec27 (levelsL es) u) rfl ?_)
    | (with_reducible refine ite_in (fun _ => ?_) (fun _ => ?_))
    | (with_reducible refine ⟨fun _ => ?_, fun _ => ?_⟩)
    | (with_reducible refine And.intro ?_ ?_)
    | (with_reducible intro _)
    | (with_reducible exact is_in _)
    | (simp -implicitDefEqProofs only [SD, SF, SL, e_nf, reduceCtorEq, implies_true, ↓reduceIte, Nat.reduceEqDiff, Nat.reduceAdd, Nat.reduceMul, Nat.reduceSub, Nat.reduceLeDiff, Nat.reduceLT, Int.reduceLT, Int.reduceLE, Int.reduceEq, Int.reduceToNat, Int.reduceAdd, Int.reduceSub, Int.reduceNeg, Int.reduceBEq, Int.reduceBNe, Nat.reduceBEq, Int.cast_ofNat_Int, decide_true, decide_false, ne_eq, eq_self_iff_true, beq_eq_false_iff_ne, bne_iff_ne, List.replicate, encLv, *]))))
  all_goals (simp_all [viaR])
def ac25 : AC := (.seq (.ops [⟨(some 0), none, (.mv (.c (.bool false)))⟩]) (.seq (.ops [⟨(some 6), none, (.build [(.str []), (.int .i64 0)] [(0, (1, (.c (.str [64, 97, 110, 110, 58, 97])))), (1, (1, (.c (.int .i64 100))))])⟩, ⟨(some 7), none, (.build [(.str []), (.int .i64 0)] [(0, (1, (.c (.str [64, 98, 111, 98, 58, 97])))), (1, (1, (.c (.int .i64 50))))])⟩, ⟨(some 8), none, (.buildSl 58 2 2 [(.str []), (.int .i64 0)] [(0, (.t 6)), (1, (.t 7))])⟩, ⟨(some 9), none, (.build [.e0, .e0, (.int .i64 0), (.int .i64 0), (.int .i64 0), (.int .i64 0), (.int .i64 0), (.int .i64 0), (.int .i64 0)] [(0, (1, (.t 8)))])⟩, ⟨(some 1), none, (.alloc [.e0, .e0, (.int .i64 0), (.int .i64 0), (.int .i64 0), (.int .i64 0), (.int .i64 0), (.int .i64 0), (.int .i64 0)])⟩, ⟨none, none, (.sto 9 (.t 1) (.t 9))⟩]) (.seq (.ops [⟨(some 10), none, (.ld true 9 (.t 1))⟩, ⟨(some 2), none, (.alloc [.e0, .e0, (.int .i64 0), (.int .i64 0), (.int .i64 0), (.int .i64 0), (.int .i64 0), (.int .i64 0), (.int .i64 0)])⟩, ⟨none, none, (.sto 9 (.t 2) (.t 10))⟩]) (.seq (.ops [⟨(some 11), none, (.fld 6 (.t 2))⟩, ⟨none, none, (.sto 1 (.t 11) (.c (.int .i64 50)))⟩]) (.seq (.ops [⟨(some 12), none, (.ld true 9 (.t 1))⟩, ⟨(some 3), none, (.alloc [.e0, .e0, (.int .i64 0), (.int .i64 0), (.int .i64 0), (.int .i64 0), (.int .i64 0), (.int .i64 0), (.int .i64 0)])⟩, ⟨none, none, (.sto 9 (.t 3) (.t 12))⟩]) (.seq (.ops [⟨(some 13), none, (.fld 6 (.t 3))⟩, ⟨none, none, (.sto 1 (.t 13) (.c (.int .i64 51)))⟩]) (.seq (.ops [⟨(some 15), none, (.call false 33 [(.c .e0)])⟩, ⟨(some 14), none, (.mv (.t 15))⟩, ⟨(some 16), none, (.ext (.t 14) 0)⟩, ⟨(some 17), none, (.ext (.t 14) 1)⟩, ⟨(some 4), none, (.alloc [.e0, .e0, (.int .i64 0), (.int .i64 0), (.int .i64 0), (.int .i64 0), (.int .i64 0), (.int .i64 0), (.int .i64 0)])⟩, ⟨none, none, (.sto 9 (.t 4) (.t 16))⟩, ⟨(some 5), none, (.mv (.t 17))⟩]) (.seq (.ops [⟨(some 18), none, (.mv (.t 5))⟩, ⟨(some 19), none, (.bin .eql (.t 18) (.c (.str [])))⟩, ⟨(some 20), none, (.mv (.t 19))⟩, ⟨(some 21), (some (20, true)), (.fld 0 (.t 4))⟩, ⟨(some 22), (some (20, true)), (.ld false 1 (.t 21))⟩, ⟨(some 23), (some (20, true)), (.len (.t 22))⟩, ⟨(some 24), (some (20, true)), (.bin .eql (.t 23) (.c (.int .i64 0)))⟩, ⟨(some 25), none, (.pick (.t 20) (.t 24) (.c (.bool false)))⟩, ⟨(some 26), none, (.mv (.t 25))⟩, ⟨(some 27), (some (26, true)), (.fld 7 (.t 4))⟩, ⟨(some 28), (some (26, true)), (.ld false 1 (.t 27))⟩, ⟨(some 29), (some (26, true)), (.bin .eql (.t 28) (.c (.int .i64 50)))⟩, ⟨(some 30), none, (.pick (.t 26) (.t 29) (.c (.bool false)))⟩, ⟨(some 31), none, (.mv (.t 30))⟩, ⟨(some 32), (some (31, true)), (.call false 31 [(.c (.str [64, 97, 110, 110, 58, 97]))])⟩, ⟨(some 33), (some (31, true)), (.call false 26 [(.t 32), (.c (.str [64, 97, 110, 110, 58, 97]))])⟩, ⟨(some 34), (some (31, true)), (.bin .eql (.t 33) (.c (.int .i64 100)))⟩, ⟨(some 35), none, (.pick (.t 31) (.t 34) (.c (.bool false)))⟩, ⟨(some 36), none, (.mv (.t 35))⟩, ⟨(some 37), (some (36, true)), (.call false 31 [(.c (.str [64, 97, 110, 110, 58, 97]))])⟩, ⟨(some 38), (some (36, true)), (.call false 28 [(.t 37), (.c (.int .i64 7))])⟩, ⟨(some 39), (some (36, true)), (.bin .eql (.t 38) (.c (.int .i64 0)))⟩, ⟨(some 40), none, (.pick (.t 36) (.t 39) (.c (.bool false)))⟩, ⟨(some 41), none, (.mv (.t 40))⟩, ⟨(some 42), (some (41, true)), (.ld true 9 (.t 1))⟩, ⟨(some 43), (some (41, true)), (.call false 26 [(.t 42), (.c (.str [64, 98, 111, 98, 58, 97]))])⟩, ⟨(some 44), (some (41, true)), (.bin .eql (.t 43) (.c (.int .i64 50)))⟩, ⟨(some 45), none, (.pick (.t 41) (.t 44) (.c (.bool false)))⟩, ⟨(some 46), none, (.mv (.t 45))⟩, ⟨(some 47), (some (46, true)), (.ld true 9 (.t 1))⟩, ⟨(some 48), (some (46, true)), (.ld true 9 (.t 2))⟩, ⟨(some 49), (some (46, true)), (.call false 35 [(.t 47), (.t 48), (.c (.str [64, 98, 111, 98, 58, 97]))])⟩, ⟨(some 50), (some (46, true)), (.bin .eql (.t 49) (.c (.int .i64 0)))⟩, ⟨(some 51), none, (.pick (.t 46) (.t 50) (.c (.bool false)))⟩, ⟨(some 52), none, (.mv (.t 51))⟩, ⟨(some 53), (some (52, true)), (.ld true 9 (.t 1))⟩, ⟨(some 54), (some (52, true)), (.ld true 9 (.t 3))⟩, ⟨(some 55), (some (52, true)), (.call false 35 [(.t 53), (.t 54), (.c (.str [64, 98, 111, 98, 58, 97]))])⟩, ⟨(some 56), (some (52, true)), (.bin .eql (.t 55) (.c (.int .i64 20)))⟩, ⟨(some 57), none, (.pick (.t 52) (.t 56) (.c (.bool false)))⟩, ⟨(some 58), none, (.mv (.t 57))⟩, ⟨(some 59), (some (58, true)), (.ld true 9 (.t 1))⟩, ⟨(some 60), (some (58, true)), (.ld true 9 (.t 1))⟩, ⟨(some 61), (some (58, true)), (.call false 37 [(.t 59), (.t 60)])⟩, ⟨(some 62), none, (.pick (.t 58) (.t 61) (.c (.bool false)))⟩, ⟨(some 63), none, (.mv (.t 62))⟩, ⟨(some 64), (some (63, true)), (.ld true 9 (.t 1))⟩, ⟨(some 65), (some (63, true)), (.ld true 9 (.t 2))⟩, ⟨(some 66), (some (63, true)), (.call false 37 [(.t 64), (.t 65)])⟩, ⟨(some 67), (some (63, true)), (.nt (.t 66))⟩, ⟨(some 68), none, (.pick (.t 63) (.t 67) (.c (.bool false)))⟩, ⟨(some 0), none, (.mv (.t 68))⟩]) .ret))))))))
theorem tr25 : Try.f25.body.bind (trCode Try.prog) = some (strip ac25) := by kernel_rfl
theorem spec25  : Spec Try.prog 25 [] (.fz (.bool true)) := by
  refine spec_at (n := 69) (ars := [(.t 0)]) (ac := ac25) Try.func25 (by kernel_rfl) (by kernel_rfl) tr25 (by kernel_rfl) ?_
  unfold ac25
  iterate 80 (all_goals (try (first
    | ((with_reducible refine of_kSpec ?_)
       refine call_sub (ds' := [.sl 29 (([] : List Ev).map encEv)]) (spec33 [] (by simp)) rfl ?_ ?_
       · simp -implicitDefEqProofs only [SD, SF, SL, e_nf, reduceCtorEq, implies_true, ↓reduceIte, Nat.reduceEqDiff, Nat.reduceAdd, Nat.reduceMul, Nat.reduceSub, Nat.reduceLeDiff, Nat.reduceLT, Int.reduceLT, Int.reduceLE, Int.reduceEq, Int.reduceToNat, Int.reduceAdd, Int.reduceSub, Int.reduceNeg, Int.reduceBEq, Int.reduceBNe, Nat.reduceBEq, Int.cast_ofNat_Int, decide_true, decide_false, ne_eq, eq_self_iff_true, beq_eq_false_iff_ne, bne_iff_ne, List.replicate, encLv, dflt, encLU, encLK, ann, bob, aw0, aw1, aw2, aw_l, aw_c]
         done)
    | ((with_reducible refine of_kSpec ?_); refine call_fz (spec31 ann) rfl ?_)
    | ((with_reducible refine of_kSpec ?_)
       refine call_sub (ds' := [.agg (encLv (dflt ann)), .str ann]) (aw_u ▸ spec26 (dflt ann) ann) rfl ?_ ?_
       · simp -implicitDefEqProofs only [SD, SF, SL, e_nf, reduceCtorEq, implies_true, ↓reduceIte, Nat.reduceEqDiff, Nat.reduceAdd, Nat.reduceMul, Nat.reduceSub, Nat.reduceLeDiff, Nat.reduceLT, Int.reduceLT, Int.reduceLE, Int.reduceEq, Int.reduceToNat, Int.reduceAdd, Int.reduceSub, Int.reduceNeg, Int.reduceBEq, Int.reduceBNe, Nat.reduceBEq, Int.cast_ofNat_Int, decide_true, decide_false, ne_eq, eq_self_iff_true, beq_eq_false_iff_ne, bne_iff_ne, List.replicate, encLv, dflt, encLU, encLK, ann, bob, aw0, aw1, aw2, aw_l, aw_c]
         done)
    | ((with_reducible refine of_kSpec ?_)
       refine call_sub (ds' := [.agg (encLv (dflt ann)), .int .i64 7]) (aw_n ▸ spec28 (dflt ann) 7) rfl ?_ ?_
       · simp -implicitDefEqProofs only [SD, SF, SL, e_nf, reduceCtorEq, implies_true, ↓reduceIte, Nat.reduceEqDiff, Nat.reduceAdd, Nat.reduceMul, Nat.reduceSub, Nat.reduceLeDiff, Nat.reduceLT, Int.reduceLT, Int.reduceLE, Int.reduceEq, Int.reduceToNat, Int.reduceAdd, Int.reduceSub, Int.reduceNeg, Int.reduceBEq, Int.reduceBNe, Nat.reduceBEq, Int.cast_ofNat_Int, decide_true, decide_false, ne_eq, eq_self_iff_true, beq_eq_false_iff_ne, bne_iff_ne, List.replicate, encLv, dflt, encLU, encLK, ann, bob, aw0, aw1, aw2, aw_l, aw_c]
         done)
    | ((with_reducible refine of_kSpec ?_)
       refine call_sub (ds' := [.agg (encLv aw0), .str bob]) (aw_b ▸ spec26 aw0 bob) rfl ?_ ?_
       · simp -implicitDefEqProofs only [SD, SF, SL, e_nf, reduceCtorEq, implies_true, ↓reduceIte, Nat.reduceEqDiff, Nat.reduceAdd, Nat.reduceMul, Nat.reduceSub, Nat.reduceLeDiff, Nat.reduceLT, Int.reduceLT, Int.reduceLE, Int.reduceEq, Int.reduceToNat, Int.reduceAdd, Int.reduceSub, Int.reduceNeg, Int.reduceBEq, Int.reduceBNe, Nat.reduceBEq, Int.cast_ofNat_Int, decide_true, decide_false, ne_eq, eq_self_iff_true, beq_eq_false_iff_ne, bne_iff_ne, List.replicate, encLv, dflt, encLU, encLK, ann, bob, aw0, aw1, aw2, aw_l, aw_c]
         done)
    | ((with_reducible refine of_kSpec ?_)
       refine call_sub (ds' := [.agg (encLv aw0), .agg (encLv aw1), .str bob]) (aw_1 ▸ spec35 aw0 aw1 bob) rfl ?_ ?_
       · simp -implicitDefEqProofs only [SD, SF, SL, e_nf, reduceCtorEq, implies_true, ↓reduceIte, Nat.reduceEqDiff, Nat.reduceAdd, Nat.reduceMul, Nat.reduceSub, Nat.reduceLeDiff, Nat.reduceLT, Int.reduceLT, Int.reduceLE, Int.reduceEq, Int.reduceToNat, Int.reduceAdd, Int.reduceSub, Int.reduceNeg, Int.reduceBEq, Int.reduceBNe, Nat.reduceBEq, Int.cast_ofNat_Int, decide_true, decide_false, ne_eq, eq_self_iff_true, beq_eq_false_iff_ne, bne_iff_ne, List.replicate, encLv, dflt, encLU, encLK, ann, bob, aw0, aw1, aw2, aw_l, aw_c]
         done)
    | ((with_reducible refine of_kSpec ?_)
       refine call_sub (ds' := [.agg (encLv aw0), .agg (encLv aw2), .str bob]) (aw_2 ▸ spec35 aw0 aw2 bob) rfl ?_ ?_
       · simp -implicitDefEqProofs only [SD, SF, SL, e_nf, reduceCtorEq, implies_true, ↓reduceIte, Nat.reduceEqDiff, Nat.reduceAdd, Nat.reduceMul, Nat.reduceSub, Nat.reduceLeDiff, Nat.reduceLT, Int.reduceLT, Int.reduceLE, Int.reduceEq, Int.reduceToNat, Int.reduceAdd, Int.reduceSub, Int.reduceNeg, Int.reduceBEq, Int.reduceBNe, Nat.reduceBEq, Int.cast_ofNat_Int, decide_true, decide_false, ne_eq, eq_self_iff_true, beq_eq_false_iff_ne, bne_iff_ne, List.replicate, encLv, dflt, encLU, encLK, ann, bob, aw0, aw1, aw2, aw_l, aw_c]
         done)
    | ((with_reducible refine of_kSpec ?_)
       refine call_sub (ds' := [.agg (encLv aw0), .agg (encLv aw0)]) (aw_3 ▸ spec37 aw0 aw0) rfl ?_ ?_
       · simp -implicitDefEqProofs only [SD, SF, SL, e_nf, reduceCtorEq, implies_true, ↓reduceIte, Nat.reduceEqDiff, Nat.reduceAdd, Nat.reduceMul, Nat.reduceSub, Nat.reduceLeDiff, Nat.reduceLT, Int.reduceLT, Int.reduceLE, Int.reduceEq, Int.reduceToNat, Int.reduceAdd, Int.reduceSub, Int.reduceNeg, Int.reduceBEq, Int.reduceBNe, Nat.reduceBEq, Int.cast_ofNat_Int, decide_true, decide_false, ne_eq, eq_self_iff_true, beq_eq_false_iff_ne, bne_iff_ne, List.replicate, encLv, dflt, encLU, encLK, ann, bob, aw0, aw1, aw2, aw_l, aw_c]
         done)
    | ((with_reducible refine of_kSpec ?_)
       refine call_sub (ds' := [.agg (encLv aw0), .agg (encLv aw1)]) (aw_4 ▸ spec37 aw0 aw1) rfl ?_ ?_
       · simp -implicitDefEqProofs only [SD, SF, SL, e_nf, reduceCtorEq, implies_true, ↓reduceIte, Nat.reduceEqDiff, Nat.reduceAdd, Nat.reduceMul, Nat.reduceSub, Nat.reduceLeDiff, Nat.reduceLT, Int.reduceLT, Int.reduceLE, Int.reduceEq, Int.reduceToNat, Int.reduceAdd, Int.reduceSub, Int.reduceNeg, Int.reduceBEq, Int.reduceBNe, Nat.reduceBEq, Int.cast_ofNat_Int, decide_true, decide_false, ne_eq, eq_self_iff_true, beq_eq_false_iff_ne, bne_iff_ne, List.replicate, encLv, dflt, encLU, encLK, ann, bob, aw0, aw1, aw2, aw_l, aw_c]
         done)
    | (with_reducible refine ite_in (fun _ => ?_) (fun _ => ?_))
    | (with_reducible refine ⟨fun _ => ?_, fun _ => ?_⟩)
    | (with_reducible refine And.intro ?_ ?_)
    | (with_reducible intro _)
    | (with_reducible exact is_in _)
    | (simp -implicitDefEqProofs only [SD, SF, SL, e_nf, reduceCtorEq, implies_true, ↓reduceIte, Nat.reduceEqDiff, Nat.reduceAdd, Nat.reduceMul, Nat.reduceSub, Nat.reduceLeDiff, Nat.reduceLT, Int.reduceLT, Int.reduceLE, Int.reduceEq, Int.reduceToNat, Int.reduceAdd, Int.reduceSub, Int.reduceNeg, Int.reduceBEq, Int.reduceBNe, Nat.reduceBEq, Int.cast_ofNat_Int, decide_true, decide_false, ne_eq, eq_self_iff_true, beq_eq_false_iff_ne, bne_iff_ne, List.replicate, encLv, dflt, encLU, encLK, ann, bob, aw0, aw1, aw2, aw_l, aw_c, *]))))

end Go.Proofs.Ythackanfbemabaa.E
