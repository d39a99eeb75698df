/-
  MdR: walks of functions of the program at data level.
-/
import Derived.Test.YtfcjmblhcakhaaaProg
import Derived.Test.YtfcjmblhcakhaaaEngZ
import Derived.Test.YtfcjmblhcakhaaaMdO
import Derived.KernelRfl
set_option linter.unusedVariables false
set_option linter.unusedSimpArgs false
namespace Go.Proofs.Ytfcjmblhcakhaaa.E
open Go
set_option maxHeartbeats 4000000
set_option maxRecDepth 100000
set_option linter.unusedSimpArgs false
set_option linter.unusedVariables false
attribute [local congr] c_wp c_ops c_op c_opS c_run c_runS c_dt c_seq c_blk c_loop c_S c_put c_bind c_mv c_pick c_nt c_ng c_bin c_binI c_binS c_beq c_B c_eqa c_hd c_cells c_blkK c_box c_vec c_mp c_mkm c_mput c_mlk c_mrm c_take c_ld c_ldF c_cellsK c_st c_fld c_fldv c_ix c_ixp c_ixv c_ixs c_sub c_subs c_len c_lens c_src c_dst c_ow c_app c_ext c_mm c_conv c_str c_isn c_fill c_rows c_boxo c_frz c_frzO c_frzA c_frzV c_spec c_specO c_opsP c_opP c_runP c_specP c_Z c_qretP c_fz c_fn c_gv c_cond c_res1 c_resL c_ret c_qret c_ite c_unr c_nx c_bk c_cut c_is
attribute [local irreducible] dwp

theorem own_cases {own : List UInt8} {now age : Int} {x : Md} (hv : validR x = 0) (h0 : -9223372036854775808 ≤ now) (h1 : now < 9223372036854775808) :
    (x.st = 1 ∧ ¬ x.server = own ∧ ¬ (x.time ≥ now) ∧ ¬ (now ≤ x.time) ∧ exM own now (mx0 age) x = ⟨x.server, x.name, x.size, x.time, 3⟩) ∨ (exM own now (mx0 age) x = x ∧ (x.st = 1 → ¬ x.server = own → age ≤ 0 → x.time < now → False)) := by
  have ht := valid_time hv
  by_cases h : x.st = 1 ∧ oldB own now (mx0 age) x = true
  · left
    have ho := h.2
    simp only [oldB, decide_eq_true_eq] at ho
    exact ⟨h.1, ho.1, by omega, by omega, by unfold exM; rw [if_pos h]⟩
  · right
    refine ⟨by unfold exM; rw [if_neg h], ?_⟩
    intro a1 a2 a3 a4
    apply h
    refine ⟨a1, ?_⟩
    simp only [oldB, decide_eq_true_eq]
    refine ⟨a2, a4, ?_⟩
    rw [wrap_in (by omega) (by omega)]
    unfold mx0
    split <;> omega
theorem own_row {l pre : List Md} {x : Md} {rest : List Md} (f : Md → Md) (he : l = pre ++ x :: rest) : ((l.map f).map encMd).getD pre.length [] = encMd (f x) := by
  rw [List.map_map]
  exact cutD (encMd ∘ f) he
def ac8 : AC := (.seq (.ops [⟨(some 3), none, (.box (.t 1))⟩, ⟨(some 4), none, (.mv (.c (.bool false)))⟩]) (.seq (.seq (.ops [⟨(some 9), none, (.mv (.t 0))⟩, ⟨(some 10), none, (.len (.t 9))⟩, ⟨(some 11), none, (.bin .gtr (.t 10) (.c (.int .i64 20)))⟩, ⟨(some 12), none, (.mv (.t 11))⟩, ⟨(some 13), (some (12, false)), (.mv (.t 0))⟩, ⟨(some 14), (some (12, false)), (.call false 13 [(.t 13)])⟩, ⟨(some 15), (some (12, false)), (.bin .neq (.t 14) (.c (.int .i64 0)))⟩, ⟨(some 16), none, (.pick (.t 12) (.c (.bool true)) (.t 15))⟩]) (.cond (.t 16) (.seq (.ops [⟨(some 17), none, (.call false 10 [])⟩, ⟨(some 4), none, (.mv (.t 17))⟩]) .ret) .skip)) (.seq (.ops [⟨(some 18), none, (.mv (.t 0))⟩, ⟨(some 19), none, (.fld 0 (.t 3))⟩, ⟨(some 20), none, (.ld false 1 (.t 19))⟩, ⟨(some 21), none, (.fld 4 (.t 3))⟩, ⟨(some 22), none, (.ld false 1 (.t 21))⟩, ⟨(some 23), none, (.fld 3 (.t 3))⟩, ⟨(some 24), none, (.ld false 1 (.t 23))⟩, ⟨(some 25), none, (.call false 25 [(.t 18), (.t 20), (.t 22), (.t 24)])⟩, ⟨(some 5), none, (.mv (.t 25))⟩]) (.seq (.seq (.ops [⟨(some 26), none, (.mv (.t 5))⟩, ⟨(some 27), none, (.len (.t 26))⟩, ⟨(some 28), none, (.mv (.t 0))⟩, ⟨(some 29), none, (.len (.t 28))⟩, ⟨(some 30), none, (.bin .neq (.t 27) (.t 29))⟩, ⟨(some 31), none, (.mv (.t 30))⟩, ⟨(some 32), (some (31, false)), (.mv (.t 5))⟩, ⟨(some 33), (some (31, false)), (.call false 15 [(.t 32)])⟩, ⟨(some 34), (some (31, false)), (.mv (.t 0))⟩, ⟨(some 35), (some (31, false)), (.call false 15 [(.t 34)])⟩, ⟨(some 36), (some (31, false)), (.bin .gtr (.t 33) (.t 35))⟩, ⟨(some 37), none, (.pick (.t 31) (.c (.bool true)) (.t 36))⟩]) (.cond (.t 37) (.seq (.ops [⟨(some 4), none, (.mv (.c (.bool false)))⟩]) .ret) .skip)) (.seq (.seq (.ops [⟨(some 6), none, (.mv (.c (.int .i64 0)))⟩]) (.block 0 (.loop (.seq (.seq (.ops [⟨(some 38), none, (.mv (.t 6))⟩, ⟨(some 39), none, (.mv (.t 0))⟩, ⟨(some 40), none, (.len (.t 39))⟩, ⟨(some 41), none, (.bin .lss (.t 38) (.t 40))⟩]) (.cond (.t 41) .skip (.exit 0))) (.seq (.block 1 (.seq (.ops [⟨(some 44), none, (.mv (.t 5))⟩, ⟨(some 45), none, (.mv (.t 6))⟩, ⟨(some 46), none, (.ix 5 (.t 44) (.t 45))⟩, ⟨(some 47), none, (.ld true 5 (.t 46))⟩, ⟨(some 7), none, (.alloc [(.str []), (.str []), (.int .i64 0), (.int .i64 0), (.int .i64 0)])⟩, ⟨none, none, (.sto 5 (.t 7) (.t 47))⟩]) (.seq (.draw (.q false ⟨(some 48), none, (.fld 4 (.t 7))⟩ (.q false ⟨(some 49), none, (.ld false 1 (.t 48))⟩ (.q false ⟨(some 50), none, (.mv (.t 0))⟩ (.q false ⟨(some 51), none, (.mv (.t 6))⟩ (.q false ⟨(some 52), none, (.ix 5 (.t 50) (.t 51))⟩ (.q false ⟨(some 53), none, (.fld 4 (.t 52))⟩ (.q false ⟨(some 54), none, (.ld false 1 (.t 53))⟩ (.q false ⟨(some 55), none, (.bin .neq (.t 49) (.t 54))⟩ (.q false ⟨(some 8), none, (.mv (.t 55))⟩ .nil)))))))))) (.seq (.ops [⟨(some 56), none, (.mv (.t 0))⟩, ⟨(some 57), none, (.mv (.t 6))⟩, ⟨(some 58), none, (.ix 5 (.t 56) (.t 57))⟩, ⟨(some 59), none, (.fld 4 (.t 58))⟩, ⟨(some 60), none, (.ld false 1 (.t 59))⟩, ⟨(some 61), none, (.fld 4 (.t 7))⟩, ⟨none, none, (.sto 1 (.t 61) (.t 60))⟩]) (.seq (.seq (.draw (.q false ⟨(some 62), none, (.ld true 5 (.t 7))⟩ (.q false ⟨(some 63), none, (.mv (.t 0))⟩ (.q false ⟨(some 64), none, (.mv (.t 6))⟩ (.q false ⟨(some 65), none, (.ix 5 (.t 63) (.t 64))⟩ (.q false ⟨(some 66), none, (.ld true 5 (.t 65))⟩ (.op ⟨(some 67), none, (.call false 17 [(.t 62), (.t 66)])⟩ (.q false ⟨(some 68), none, (.nt (.t 67))⟩ (.q false ⟨(some 69), none, (.mv (.t 68))⟩ (.q false ⟨(some 70), (some (69, false)), (.mv (.t 8))⟩ (.q false ⟨(some 71), (some (69, false)), (.mv (.t 70))⟩ (.q false ⟨(some 72), (some (71, true)), (.mv (.t 5))⟩ (.q false ⟨(some 73), (some (71, true)), (.mv (.t 6))⟩ (.q false ⟨(some 74), (some (71, true)), (.ix 5 (.t 72) (.t 73))⟩ (.q false ⟨(some 75), (some (71, true)), (.fld 4 (.t 74))⟩ (.q false ⟨(some 76), (some (71, true)), (.ld false 1 (.t 75))⟩ (.q false ⟨(some 77), (some (71, true)), (.bin .neq (.t 76) (.c (.int .i64 3)))⟩ (.q false ⟨(some 78), (some (71, true)), (.mv (.t 77))⟩ (.q false ⟨(some 79), (some (78, false)), (.mv (.t 0))⟩ (.q false ⟨(some 80), (some (78, false)), (.mv (.t 6))⟩ (.q false ⟨(some 81), (some (78, false)), (.ix 5 (.t 79) (.t 80))⟩ (.q false ⟨(some 82), (some (78, false)), (.fld 4 (.t 81))⟩ (.q false ⟨(some 83), (some (78, false)), (.ld false 1 (.t 82))⟩ (.q false ⟨(some 84), (some (78, false)), (.bin .neq (.t 83) (.c (.int .i64 1)))⟩ (.q false ⟨(some 85), (some (71, true)), (.pick (.t 78) (.c (.bool true)) (.t 84))⟩ (.q false ⟨(some 86), (some (71, true)), (.mv (.t 85))⟩ (.q false ⟨(some 87), (some (86, false)), (.mv (.t 0))⟩ (.q false ⟨(some 88), (some (86, false)), (.mv (.t 6))⟩ (.q false ⟨(some 89), (some (86, false)), (.ix 5 (.t 87) (.t 88))⟩ (.q false ⟨(some 90), (some (86, false)), (.fld 0 (.t 89))⟩ (.q false ⟨(some 91), (some (86, false)), (.ld false 1 (.t 90))⟩ (.q false ⟨(some 92), (some (86, false)), (.fld 0 (.t 3))⟩ (.q false ⟨(some 93), (some (86, false)), (.ld false 1 (.t 92))⟩ (.q false ⟨(some 94), (some (86, false)), (.bin .eql (.t 91) (.t 93))⟩ (.q false ⟨(some 95), (some (71, true)), (.pick (.t 86) (.c (.bool true)) (.t 94))⟩ (.q false ⟨(some 96), (some (71, true)), (.mv (.t 95))⟩ (.q false ⟨(some 97), (some (96, false)), (.mv (.t 0))⟩ (.q false ⟨(some 98), (some (96, false)), (.mv (.t 6))⟩ (.q false ⟨(some 99), (some (96, false)), (.ix 5 (.t 97) (.t 98))⟩ (.q false ⟨(some 100), (some (96, false)), (.fld 3 (.t 99))⟩ (.q false ⟨(some 101), (some (96, false)), (.ld false 1 (.t 100))⟩ (.q false ⟨(some 102), (some (96, false)), (.fld 4 (.t 3))⟩ (.q false ⟨(some 103), (some (96, false)), (.ld false 1 (.t 102))⟩ (.q false ⟨(some 104), (some (96, false)), (.bin .geq (.t 101) (.t 103))⟩ (.q false ⟨(some 105), (some (71, true)), (.pick (.t 96) (.c (.bool true)) (.t 104))⟩ (.q false ⟨(some 106), (some (69, false)), (.pick (.t 71) (.t 105) (.c (.bool false)))⟩ (.q false ⟨(some 107), none, (.pick (.t 69) (.c (.bool true)) (.t 106))⟩ .nil))))))))))))))))))))))))))))))))))))))))))))))) (.cond (.t 107) (.seq (.ops [⟨(some 4), none, (.mv (.c (.bool false)))⟩]) .ret) .skip)) (.seq (.draw (.q false ⟨(some 108), none, (.mv (.t 8))⟩ (.q false ⟨(some 109), none, (.nt (.t 108))⟩ (.q false ⟨(some 110), none, (.mv (.t 109))⟩ (.q false ⟨(some 111), (some (110, true)), (.mv (.t 0))⟩ (.q false ⟨(some 112), (some (110, true)), (.mv (.t 6))⟩ (.q false ⟨(some 113), (some (110, true)), (.ix 5 (.t 111) (.t 112))⟩ (.q false ⟨(some 114), (some (110, true)), (.fld 4 (.t 113))⟩ (.q false ⟨(some 115), (some (110, true)), (.ld false 1 (.t 114))⟩ (.q false ⟨(some 116), (some (110, true)), (.bin .eql (.t 115) (.c (.int .i64 1)))⟩ (.q false ⟨(some 117), none, (.pick (.t 110) (.t 116) (.c (.bool false)))⟩ (.q false ⟨(some 118), none, (.mv (.t 117))⟩ (.q false ⟨(some 119), (some (118, true)), (.mv (.t 0))⟩ (.q false ⟨(some 120), (some (118, true)), (.mv (.t 6))⟩ (.q false ⟨(some 121), (some (118, true)), (.ix 5 (.t 119) (.t 120))⟩ (.q false ⟨(some 122), (some (118, true)), (.fld 0 (.t 121))⟩ (.q false ⟨(some 123), (some (118, true)), (.ld false 1 (.t 122))⟩ (.q false ⟨(some 124), (some (118, true)), (.fld 0 (.t 3))⟩ (.q false ⟨(some 125), (some (118, true)), (.ld false 1 (.t 124))⟩ (.q false ⟨(some 126), (some (118, true)), (.bin .neq (.t 123) (.t 125))⟩ (.q false ⟨(some 127), none, (.pick (.t 118) (.t 126) (.c (.bool false)))⟩ (.q false ⟨(some 128), none, (.mv (.t 127))⟩ (.q false ⟨(some 129), (some (128, true)), (.fld 3 (.t 3))⟩ (.q false ⟨(some 130), (some (128, true)), (.ld false 1 (.t 129))⟩ (.q false ⟨(some 131), (some (128, true)), (.bin .leq (.t 130) (.c (.int .i64 0)))⟩ (.q false ⟨(some 132), none, (.pick (.t 128) (.t 131) (.c (.bool false)))⟩ (.q false ⟨(some 133), none, (.mv (.t 132))⟩ (.q false ⟨(some 134), (some (133, true)), (.mv (.t 0))⟩ (.q false ⟨(some 135), (some (133, true)), (.mv (.t 6))⟩ (.q false ⟨(some 136), (some (133, true)), (.ix 5 (.t 134) (.t 135))⟩ (.q false ⟨(some 137), (some (133, true)), (.fld 3 (.t 136))⟩ (.q false ⟨(some 138), (some (133, true)), (.ld false 1 (.t 137))⟩ (.q false ⟨(some 139), (some (133, true)), (.fld 4 (.t 3))⟩ (.q false ⟨(some 140), (some (133, true)), (.ld false 1 (.t 139))⟩ (.q false ⟨(some 141), (some (133, true)), (.bin .lss (.t 138) (.t 140))⟩ (.q false ⟨(some 142), none, (.pick (.t 133) (.t 141) (.c (.bool false)))⟩ .nil)))))))))))))))))))))))))))))))))))) (.cond (.t 142) (.seq (.ops [⟨(some 4), none, (.mv (.c (.bool false)))⟩]) .ret) .skip))))))) (.ops [⟨(some 42), none, (.mv (.t 6))⟩, ⟨(some 43), none, (.bin .add (.t 42) (.c (.int .i64 1)))⟩, ⟨(some 6), none, (.mv (.t 43))⟩])))))) (.seq (.ops [⟨(some 143), none, (.call false 10 [])⟩, ⟨(some 4), none, (.mv (.t 143))⟩]) .ret))))))
theorem tr8 : Try.f8.body.bind (trCode Try.prog) = some (strip ac8) := by kernel_rfl
theorem spec8 (l : List Md) (q : Ask) (h0 : -9223372036854775808 ≤ q.now) (h1 : q.now < 9223372036854775808) : Spec Try.prog 8 [.fz (.sl 5 (l.map encMd)), .fz (.agg (encAsk q))] (.fz (.bool true)) := by
  refine spec_at (n := 142) (ars := [(.t 4)]) (ac := ac8) Try.func8 (by kernel_rfl) (by kernel_rfl) tr8 (by kernel_rfl) ?_
  unfold ac8
  by_cases hg : 20 < l.length ∨ ¬ chkL l = 0
  · skip
    iterate 24 (all_goals (try (first
      | ((with_reducible refine of_kSpec ?_); refine call_fz (spec13 l) rfl ?_)
      | ((with_reducible refine of_kSpec ?_); refine call_fz (spec10) rfl ?_)
      | (with_reducible refine ite_in (fun _ => ?_) (fun _ => ?_))
      | (with_reducible refine ⟨fun _ => ?_, fun _ => ?_⟩)
      | (with_reducible refine And.intro ?_ ?_)
      | (with_reducible intro _)
      | (with_reducible exact is_in _)
      | (simp -implicitDefEqProofs only [SD, SF, SL, e_nf, reduceCtorEq, implies_true, ↓reduceIte, Nat.reduceEqDiff, Nat.reduceAdd, Nat.reduceMul, Nat.reduceSub, Nat.reduceLeDiff, Nat.reduceLT, Int.reduceLT, Int.reduceLE, Int.reduceEq, Int.reduceToNat, Int.reduceAdd, Int.reduceSub, Int.reduceNeg, Int.reduceBEq, Int.reduceBNe, Nat.reduceBEq, Int.cast_ofNat_Int, decide_true, decide_false, ne_eq, eq_self_iff_true, beq_eq_false_iff_ne, bne_iff_ne, List.replicate, encMd, encAsk, *]))))
    all_goals (first | (simp_all; done) | (simp_all; omega))
  have hl20 : ¬ (20 < l.length) := fun h => hg (.inl h)
  have hc : chkL l = 0 := Classical.byContradiction fun h => hg (.inr h)
  clear hg
  have hb : l.length ≤ 1000 := by omega
  have h20 : ¬ ((l.length : Int) > 20) := by omega
  have hx := spec25 l q.own q.now q.size hb
  obtain ⟨e1, e2, e3, _⟩ := exp_keep q.own q.now q.size hc
  have e5 := tot_ex q.own q.now q.size hc hb
  rw [e1] at hx e2 e3 e5
  obtain ⟨xs, hxs⟩ : ∃ xs, xs = l.map (exM q.own q.now (mx0 q.size)) := ⟨_, rfl⟩
  rw [← hxs] at hx e2 e3 e5
  have e6 : ¬ (totR xs > totR l) := by omega
  clear e1 e5
  replace hxs := Hd.mk hxs
  iterate 24 (all_goals (try (first
    | ((with_reducible refine of_kSpec ?_); refine call_fz (spec13 l) rfl ?_)
    | ((with_reducible refine of_kSpec ?_); refine call_fz (hx) rfl ?_)
    | ((with_reducible refine of_kSpec ?_); refine call_fz (spec15 xs) rfl ?_)
    | ((with_reducible refine of_kSpec ?_); refine call_fz (spec15 l) rfl ?_)
    | (with_reducible refine ite_in (fun _ => ?_) (fun _ => ?_))
    | (with_reducible refine ⟨fun _ => ?_, fun _ => ?_⟩)
    | (with_reducible refine And.intro ?_ ?_)
    | (with_reducible intro _)
    | (with_reducible exact is_in _)
    | (simp -implicitDefEqProofs only [SD, SF, SL, e_nf, reduceCtorEq, implies_true, ↓reduceIte, Nat.reduceEqDiff, Nat.reduceAdd, Nat.reduceMul, Nat.reduceSub, Nat.reduceLeDiff, Nat.reduceLT, Int.reduceLT, Int.reduceLE, Int.reduceEq, Int.reduceToNat, Int.reduceAdd, Int.reduceSub, Int.reduceNeg, Int.reduceBEq, Int.reduceBNe, Nat.reduceBEq, Int.cast_ofNat_Int, decide_true, decide_false, ne_eq, eq_self_iff_true, beq_eq_false_iff_ne, bne_iff_ne, List.replicate, encMd, encAsk, *]))))
  refine loop_q (X := List Md × List Md × Unit) (fun n x => l = x.1 ++ x.2.1 ∧ n = x.2.1.length ∧ (True)) (fun x => [(6, .int .i64 x.1.length)]) (fun _ => []) [4, 7, 8, 38, 39, 40, 41, 42, 43, 44, 45, 46, 47, 48, 49, 50, 51, 52, 53, 54, 55, 56, 57, 58, 59, 60, 61, 62, 63, 64, 65, 66, 67, 68, 69, 70, 71, 72, 73, 74, 75, 76, 77, 78, 79, 80, 81, 82, 83, 84, 85, 86, 87, 88, 89, 90, 91, 92, 93, 94, 95, 96, 97, 98, 99, 100, 101, 102, 103, 104, 105, 106, 107, 108, 109, 110, 111, 112, 113, 114, 115, 116, 117, 118, 119, 120, 121, 122, 123, 124, 125, 126, 127, 128, 129, 130, 131, 132, 133, 134, 135, 136, 137, 138, 139, 140, 141, 142] [7]  (l).length ([], l, ()) ⟨rfl, rfl, by trivial⟩ ?_ ?_
  · simp -implicitDefEqProofs only [SD, SF, SL, e_nf, reduceCtorEq, implies_true, ↓reduceIte, Nat.reduceEqDiff, Nat.reduceAdd, Nat.reduceMul, Nat.reduceSub, Nat.reduceLeDiff, Nat.reduceLT, Int.reduceLT, Int.reduceLE, Int.reduceEq, Int.reduceToNat, Int.reduceAdd, Int.reduceSub, Int.reduceNeg, Int.reduceBEq, Int.reduceBNe, Nat.reduceBEq, Int.cast_ofNat_Int, decide_true, decide_false, ne_eq, eq_self_iff_true, beq_eq_false_iff_ne, bne_iff_ne, List.replicate, encMd, encAsk] <;> simp
  · rintro n ⟨pre, rest, a⟩ ⟨he, rfl, hI⟩
    dsimp only at he hI
    cases rest with
    | nil =>
      obtain rfl : l = pre := by simpa using he
      clear he
      have hlt : ¬ (((l).length : Int) < ((l).length : Int)) := Int.lt_irrefl _
      iterate 60 (all_goals (try (first
        | ((with_reducible refine of_kSpec ?_); refine call_fz (spec10) rfl ?_)
        | (with_reducible refine ite_in (fun _ => ?_) (fun _ => ?_))
        | (with_reducible refine ⟨fun _ => ?_, fun _ => ?_⟩)
        | (with_reducible refine And.intro ?_ ?_)
        | (with_reducible intro _)
        | (with_reducible exact is_in _)
        | ((with_reducible refine eq_in ?_); (first | (simp_all; done) | (exact (hno (by assumption) (by assumption) (by assumption) (by assumption)).elim)); done)
        | (simp -implicitDefEqProofs only [SD, SF, SL, e_nf, reduceCtorEq, implies_true, ↓reduceIte, Nat.reduceEqDiff, Nat.reduceAdd, Nat.reduceMul, Nat.reduceSub, Nat.reduceLeDiff, Nat.reduceLT, Int.reduceLT, Int.reduceLE, Int.reduceEq, Int.reduceToNat, Int.reduceAdd, Int.reduceSub, Int.reduceNeg, Int.reduceBEq, Int.reduceBNe, Nat.reduceBEq, Int.cast_ofNat_Int, decide_true, decide_false, ne_eq, eq_self_iff_true, beq_eq_false_iff_ne, bne_iff_ne, List.replicate, encMd, encAsk, *]))))
      all_goals (first | (simp_all; done) | (exact (hno (by assumption) (by assumption) (by assumption) (by assumption)).elim))

    | cons x rest =>
      have hlt := cut_lt he
      have hx := cutD encMd he
      simp only [encMd] at hx
      simp -implicitDefEqProofs only [SD, SF, SL, e_nf, reduceCtorEq, implies_true, ↓reduceIte, Nat.reduceEqDiff, Nat.reduceAdd, Nat.reduceMul, Nat.reduceSub, Nat.reduceLeDiff, Nat.reduceLT, Int.reduceLT, Int.reduceLE, Int.reduceEq, Int.reduceToNat, Int.reduceAdd, Int.reduceSub, Int.reduceNeg, Int.reduceBEq, Int.reduceBNe, Nat.reduceBEq, Int.cast_ofNat_Int, decide_true, decide_false, ne_eq, eq_self_iff_true, beq_eq_false_iff_ne, bne_iff_ne, List.replicate, encMd, encAsk, hlt]
      intro hl
      have hw := wrap_len (n := pre.length) (m := (l).length) (cut_lt' he) (by simpa using hl)
      replace he := Hd.mk he
      have hv := chkF_valid l none hc x (by rw [he.out]; simp)
      have hE := own_row (exM q.own q.now (mx0 q.size)) he.out
      rw [← hxs.out] at hE
      rcases own_cases (own := q.own) (age := q.size) hv h0 h1 with ⟨hst, hso, hti, htj, hex⟩ | ⟨hex, hno⟩
      all_goals rw [hex] at hE
      all_goals simp only [encMd] at hE
      iterate 60 (all_goals (try (first
        | ((with_reducible refine back_in rest.length [4, 7, 8, 38, 39, 40, 41, 42, 43, 44, 45, 46, 47, 48, 49, 50, 51, 52, 53, 54, 55, 56, 57, 58, 59, 60, 61, 62, 63, 64, 65, 66, 67, 68, 69, 70, 71, 72, 73, 74, 75, 76, 77, 78, 79, 80, 81, 82, 83, 84, 85, 86, 87, 88, 89, 90, 91, 92, 93, 94, 95, 96, 97, 98, 99, 100, 101, 102, 103, 104, 105, 106, 107, 108, 109, 110, 111, 112, 113, 114, 115, 116, 117, 118, 119, 120, 121, 122, 123, 124, 125, 126, 127, 128, 129, 130, 131, 132, 133, 134, 135, 136, 137, 138, 139, 140, 141, 142] [7] (pre ++ [x], rest, a) ?_ ⟨?_, ?_, ?_⟩ ?_)
           · simp
           · exact cut_snoc he.out
           · rfl
           · first | rfl | assumption | (simp_all []; done) | grind []
           · first | (simp -implicitDefEqProofs only [SD, SF, SL, e_nf, reduceCtorEq, implies_true, ↓reduceIte, Nat.reduceEqDiff, Nat.reduceAdd, Nat.reduceMul, Nat.reduceSub, Nat.reduceLeDiff, Nat.reduceLT, Int.reduceLT, Int.reduceLE, Int.reduceEq, Int.reduceToNat, Int.reduceAdd, Int.reduceSub, Int.reduceNeg, Int.reduceBEq, Int.reduceBNe, Nat.reduceBEq, Int.cast_ofNat_Int, decide_true, decide_false, ne_eq, eq_self_iff_true, beq_eq_false_iff_ne, bne_iff_ne, List.replicate, encMd, encAsk] <;> simp <;> done) | (simp -implicitDefEqProofs only [SD, SF, SL, e_nf, reduceCtorEq, implies_true, ↓reduceIte, Nat.reduceEqDiff, Nat.reduceAdd, Nat.reduceMul, Nat.reduceSub, Nat.reduceLeDiff, Nat.reduceLT, Int.reduceLT, Int.reduceLE, Int.reduceEq, Int.reduceToNat, Int.reduceAdd, Int.reduceSub, Int.reduceNeg, Int.reduceBEq, Int.reduceBNe, Nat.reduceBEq, Int.cast_ofNat_Int, decide_true, decide_false, ne_eq, eq_self_iff_true, beq_eq_false_iff_ne, bne_iff_ne, List.replicate, encMd, encAsk, *] <;> simp_all <;> done))
        | ((with_reducible refine of_kSpec ?_)
           refine call_sub (ds' := [.agg (encMd x), .agg (encMd x)]) (spec17 x x) rfl ?_ ?_
           · simp -implicitDefEqProofs only [SD, SF, SL, e_nf, reduceCtorEq, implies_true, ↓reduceIte, Nat.reduceEqDiff, Nat.reduceAdd, Nat.reduceMul, Nat.reduceSub, Nat.reduceLeDiff, Nat.reduceLT, Int.reduceLT, Int.reduceLE, Int.reduceEq, Int.reduceToNat, Int.reduceAdd, Int.reduceSub, Int.reduceNeg, Int.reduceBEq, Int.reduceBNe, Nat.reduceBEq, Int.cast_ofNat_Int, decide_true, decide_false, ne_eq, eq_self_iff_true, beq_eq_false_iff_ne, bne_iff_ne, List.replicate, encMd, *]
             done)
        | (with_reducible refine ite_in (fun _ => ?_) (fun _ => ?_))
        | (with_reducible refine ⟨fun _ => ?_, fun _ => ?_⟩)
        | (with_reducible refine And.intro ?_ ?_)
        | (with_reducible intro _)
        | (with_reducible exact is_in _)
        | ((with_reducible refine eq_in ?_); (first | (simp_all; done) | (exact (hno (by assumption) (by assumption) (by assumption) (by assumption)).elim)); done)
        | (simp -implicitDefEqProofs only [SD, SF, SL, e_nf, reduceCtorEq, implies_true, ↓reduceIte, Nat.reduceEqDiff, Nat.reduceAdd, Nat.reduceMul, Nat.reduceSub, Nat.reduceLeDiff, Nat.reduceLT, Int.reduceLT, Int.reduceLE, Int.reduceEq, Int.reduceToNat, Int.reduceAdd, Int.reduceSub, Int.reduceNeg, Int.reduceBEq, Int.reduceBNe, Nat.reduceBEq, Int.cast_ofNat_Int, decide_true, decide_false, ne_eq, eq_self_iff_true, beq_eq_false_iff_ne, bne_iff_ne, List.replicate, encMd, encAsk, *]))))
      all_goals (first | (simp_all; done) | (exact (hno (by assumption) (by assumption) (by assumption) (by assumption)).elim))

end Go.Proofs.Ytfcjmblhcakhaaa.E
