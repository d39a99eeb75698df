/-
  MdL: walks of functions of the program at data level.
-/
import Derived.Test.YtfcjmblhcakhaaaProg
import Derived.Test.YtfcjmblhcakhaaaEngZ
import Derived.Test.YtfcjmblhcakhaaaMdK
import Derived.KernelRfl
set_option linter.unusedVariables false
set_option linter.unusedSimpArgs false
namespace Go.Proofs.Ytfcjmblhcakhaaa.E
open Go
set_option maxHeartbeats 4000000
set_option maxRecDepth 100000
set_option linter.unusedSimpArgs false
set_option linter.unusedVariables false
attribute [local congr] c_wp c_ops c_op c_opS c_run c_runS c_dt c_seq c_blk c_loop c_S c_put c_bind c_mv c_pick c_nt c_ng c_bin c_binI c_binS c_beq c_B c_eqa c_hd c_cells c_blkK c_box c_vec c_mp c_mkm c_mput c_mlk c_mrm c_take c_ld c_ldF c_cellsK c_st c_fld c_fldv c_ix c_ixp c_ixv c_ixs c_sub c_subs c_len c_lens c_src c_dst c_ow c_app c_ext c_mm c_conv c_str c_isn c_fill c_rows c_boxo c_frz c_frzO c_frzA c_frzV c_spec c_specO c_opsP c_opP c_runP c_specP c_Z c_qretP c_fz c_fn c_gv c_cond c_res1 c_resL c_ret c_qret c_ite c_unr c_nx c_bk c_cut c_is
attribute [local irreducible] dwp

theorem chkF_valid : ∀ (l : List Md) (p : Option Md), chkF p l = 0 → ∀ x ∈ l, validR x = 0 := by
  intro l
  induction l with
  | nil => simp
  | cons y l ih =>
    intro p h x hx
    unfold chkF at h
    split at h
    · omega
    · rename_i h1
      split at h
      · omega
      · rcases List.mem_cons.1 hx with rfl | hx
        · omega
        · exact ih _ h x hx
theorem valid_time {x : Md} (hv : validR x = 0) : 0 ≤ x.time ∧ x.time ≤ 1000000000 := by
  unfold validR at hv
  split at hv
  · omega
  · split at hv
    · omega
    · omega
theorem mx0_nn (age : Int) : 0 ≤ mx0 age := by unfold mx0; split <;> omega
theorem ex_ref {l : List Md} {now age : Int} (hc : chkL l = 0) (hn : ¬ now < 0) (hm : now < 9223372036854775808) : ∀ x ∈ l, IntKind.i64.wrap (now - x.time) > mx0 age → now > x.time := by
  intro x hx
  have ht := valid_time (chkF_valid l none hc x hx)
  have ha := mx0_nn age
  rw [wrap_in (by omega) (by omega)]
  omega
theorem ex_neg {l : List Md} {own : List UInt8} {now age : Int} (hc : chkL l = 0) (hn : now < 0) : expR l own now age = l := by
  unfold expR
  rw [if_neg (by omega)]
  have h : ∀ x ∈ l, exM own now (mx0 age) x = x := by
    intro x hx
    have ht := valid_time (chkF_valid l none hc x hx)
    unfold exM
    rw [if_neg]
    rintro ⟨_, h⟩
    simp only [oldB, decide_eq_true_eq] at h
    omega
  rw [List.map_congr_left h, List.map_id']
def ac26 : AC := (.seq (.ops [⟨(some 8), none, (.mv (.c .e0))⟩]) (.seq (.seq (.ops [⟨(some 11), none, (.mv (.t 0))⟩, ⟨(some 12), none, (.call false 14 [(.t 11)])⟩, ⟨(some 13), none, (.bin .neq (.t 12) (.c (.int .i64 0)))⟩, ⟨(some 14), none, (.mv (.t 13))⟩, ⟨(some 15), (some (14, false)), (.mv (.t 2))⟩, ⟨(some 16), (some (14, false)), (.bin .lss (.t 15) (.c (.int .i64 0)))⟩, ⟨(some 17), none, (.pick (.t 14) (.c (.bool true)) (.t 16))⟩]) (.cond (.t 17) (.seq (.ops [⟨(some 18), none, (.mv (.t 0))⟩, ⟨(some 8), none, (.mv (.t 18))⟩]) .ret) .skip)) (.seq (.ops [⟨(some 19), none, (.mv (.t 3))⟩, ⟨(some 20), none, (.mm true (.t 19) (.c (.int .i64 0)))⟩, ⟨(some 3), none, (.mv (.t 20))⟩]) (.seq (.ops [⟨(some 21), none, (.buildSl 26 5 0 [(.str []), (.str []), (.int .i64 0), (.int .i64 0), (.int .i64 0)] [])⟩, ⟨(some 22), none, (.mv (.t 0))⟩, ⟨(some 23), none, (.app 26 5 56 (.t 21) (.t 22))⟩, ⟨(some 9), none, (.mv (.t 23))⟩]) (.seq (.seq (.ops [⟨(some 10), none, (.mv (.c (.int .i64 0)))⟩]) (.block 0 (.loop (.seq (.seq (.ops [⟨(some 24), none, (.mv (.t 10))⟩, ⟨(some 25), none, (.mv (.t 9))⟩, ⟨(some 26), none, (.len (.t 25))⟩, ⟨(some 27), none, (.bin .lss (.t 24) (.t 26))⟩]) (.cond (.t 27) .skip (.exit 0))) (.seq (.block 1 (.seq (.ops [⟨(some 30), none, (.mv (.t 9))⟩, ⟨(some 31), none, (.mv (.t 10))⟩, ⟨(some 32), none, (.ix 5 (.t 30) (.t 31))⟩, ⟨(some 33), none, (.fld 4 (.t 32))⟩, ⟨(some 34), none, (.ld false 1 (.t 33))⟩, ⟨(some 35), none, (.bin .eql (.t 34) (.c (.int .i64 1)))⟩, ⟨(some 36), none, (.mv (.t 35))⟩, ⟨(some 37), (some (36, true)), (.mv (.t 9))⟩, ⟨(some 38), (some (36, true)), (.mv (.t 10))⟩, ⟨(some 39), (some (36, true)), (.ix 5 (.t 37) (.t 38))⟩, ⟨(some 40), (some (36, true)), (.fld 0 (.t 39))⟩, ⟨(some 41), (some (36, true)), (.ld false 1 (.t 40))⟩, ⟨(some 42), (some (36, true)), (.mv (.t 1))⟩, ⟨(some 43), (some (36, true)), (.bin .neq (.t 41) (.t 42))⟩, ⟨(some 44), none, (.pick (.t 36) (.t 43) (.c (.bool false)))⟩, ⟨(some 45), none, (.mv (.t 44))⟩, ⟨(some 46), (some (45, true)), (.mv (.t 2))⟩, ⟨(some 47), (some (45, true)), (.mv (.t 9))⟩, ⟨(some 48), (some (45, true)), (.mv (.t 10))⟩, ⟨(some 49), (some (45, true)), (.ix 5 (.t 47) (.t 48))⟩, ⟨(some 50), (some (45, true)), (.fld 3 (.t 49))⟩, ⟨(some 51), (some (45, true)), (.ld false 1 (.t 50))⟩, ⟨(some 52), (some (45, true)), (.bin .sub (.t 46) (.t 51))⟩, ⟨(some 53), (some (45, true)), (.mv (.t 3))⟩, ⟨(some 54), (some (45, true)), (.bin .gtr (.t 52) (.t 53))⟩, ⟨(some 55), none, (.pick (.t 45) (.t 54) (.c (.bool false)))⟩]) (.cond (.t 55) (.ops [⟨(some 56), none, (.mv (.t 9))⟩, ⟨(some 57), none, (.mv (.t 10))⟩, ⟨(some 58), none, (.ix 5 (.t 56) (.t 57))⟩, ⟨(some 59), none, (.fld 4 (.t 58))⟩, ⟨none, none, (.sto 1 (.t 59) (.c (.int .i64 3)))⟩]) .skip))) (.ops [⟨(some 28), none, (.mv (.t 10))⟩, ⟨(some 29), none, (.bin .add (.t 28) (.c (.int .i64 1)))⟩, ⟨(some 10), none, (.mv (.t 29))⟩])))))) (.seq (.ops [⟨(some 60), none, (.mv (.t 9))⟩, ⟨(some 8), none, (.mv (.t 60))⟩]) .ret))))))
theorem tr26 : Try.f26.body.bind (trCode Try.prog) = some (strip ac26) := by kernel_rfl
theorem spec26 (l : List Md) (own : List UInt8) (now age : Int) (hb : l.length ≤ 1000) (hn : now < 9223372036854775808) : Spec Try.prog 26 [.fz (.sl 5 (l.map encMd)), .fz (.str own), .fz (.int .i64 now), .fz (.int .i64 age)] (.fz (.sl 5 ((expR l own now age).map encMd))) := by
  refine spec_at (n := 57) (ars := [(.t 8)]) (ac := ac26) Try.func26 (by kernel_rfl) (by kernel_rfl) tr26 (by kernel_rfl) ?_
  unfold ac26
  have h1 : l.length ≤ maxLen := by simp only [maxLen]; omega
  have h2 : l.length * 56 ≤ 140737488355328 := by omega
  have hr1 : True := trivial
  iterate 16 (all_goals (try (first
    | ((with_reducible refine Or.inl (?_ : List.map _ _ = List.map _ _)); first | (simp_all [expR]; done) | (rw [ex_neg (by simp_all) (by assumption)]; done))
    | ((with_reducible refine of_kSpec ?_); refine call_fz (spec14 l) rfl ?_)
    | (with_reducible refine ite_in (fun _ => ?_) (fun _ => ?_))
    | (with_reducible refine ⟨fun _ => ?_, fun _ => ?_⟩)
    | (with_reducible refine And.intro ?_ ?_)
    | (with_reducible intro _)
    | (with_reducible exact is_in _)
    | ((with_reducible refine eq_in ?_); (first | (simp_all [expR]; done) | (rw [ex_neg (by simp_all) (by assumption)]; done)); done)
    | (simp -implicitDefEqProofs only [SD, SF, SL, e_nf, reduceCtorEq, implies_true, ↓reduceIte, Nat.reduceEqDiff, Nat.reduceAdd, Nat.reduceMul, Nat.reduceSub, Nat.reduceLeDiff, Nat.reduceLT, Int.reduceLT, Int.reduceLE, Int.reduceEq, Int.reduceToNat, Int.reduceAdd, Int.reduceSub, Int.reduceNeg, Int.reduceBEq, Int.reduceBNe, Nat.reduceBEq, Int.cast_ofNat_Int, decide_true, decide_false, ne_eq, eq_self_iff_true, beq_eq_false_iff_ne, bne_iff_ne, List.replicate, encMd, *]))))
  rename_i hck
  have hck0 : chkL l = 0 := by simp_all
  have hn0 : ¬ now < 0 := by simp_all
  have hmx : (if 0 > age then 0 else age) = mx0 age := rfl
  refine loop_q (X := List Md × List Md × List Md) (fun n x => l = x.1 ++ x.2.1 ∧ n = x.2.1.length ∧ (x.2.2 = x.1.map (exM own now (mx0 age)) ++ x.2.1)) (fun x => [(10, .int .i64 x.1.length)]) (fun x => [(23, .vec 26 5 (x.2.2.map encMd))]) [24, 25, 26, 27, 28, 29, 30, 31, 32, 33, 34, 35, 36, 37, 38, 39, 40, 41, 42, 43, 44, 45, 46, 47, 48, 49, 50, 51, 52, 53, 54, 55, 56, 57, 58, 59] []  (l).length ([], l, l) ⟨rfl, rfl, by first | rfl | (apply hr4; simp [exM, oldB, *]; done) | (apply hr5; simp [exM, oldB, *]; done) | (apply hr4; simp_all [exM, oldB]; done) | (apply hr5; simp_all [exM, oldB]; done)⟩ ?_ ?_
  · simp -implicitDefEqProofs only [SD, SF, SL, e_nf, reduceCtorEq, implies_true, ↓reduceIte, Nat.reduceEqDiff, Nat.reduceAdd, Nat.reduceMul, Nat.reduceSub, Nat.reduceLeDiff, Nat.reduceLT, Int.reduceLT, Int.reduceLE, Int.reduceEq, Int.reduceToNat, Int.reduceAdd, Int.reduceSub, Int.reduceNeg, Int.reduceBEq, Int.reduceBNe, Nat.reduceBEq, Int.cast_ofNat_Int, decide_true, decide_false, ne_eq, eq_self_iff_true, beq_eq_false_iff_ne, bne_iff_ne, List.replicate, encMd, hr1] <;> simp
  · rintro n ⟨pre, rest, a⟩ ⟨he, rfl, hI⟩
    dsimp only at he hI
    cases rest with
    | nil =>
      obtain rfl : l = pre := by simpa using he
      clear he
      have hlt : ¬ (((l).length : Int) < ((l).length : Int)) := Int.lt_irrefl _
      have hr1 : a.length = l.length := by rw [hI]; simp
      iterate 30 (all_goals (try (first
        | (with_reducible refine ite_in (fun _ => ?_) (fun _ => ?_))
        | (with_reducible refine ⟨fun _ => ?_, fun _ => ?_⟩)
        | (with_reducible refine And.intro ?_ ?_)
        | (with_reducible intro _)
        | (with_reducible exact is_in _)
        | (simp -implicitDefEqProofs only [SD, SF, SL, e_nf, reduceCtorEq, implies_true, ↓reduceIte, Nat.reduceEqDiff, Nat.reduceAdd, Nat.reduceMul, Nat.reduceSub, Nat.reduceLeDiff, Nat.reduceLT, Int.reduceLT, Int.reduceLE, Int.reduceEq, Int.reduceToNat, Int.reduceAdd, Int.reduceSub, Int.reduceNeg, Int.reduceBEq, Int.reduceBNe, Nat.reduceBEq, Int.cast_ofNat_Int, decide_true, decide_false, ne_eq, eq_self_iff_true, beq_eq_false_iff_ne, bne_iff_ne, List.replicate, encMd, hr1, *]))))
      all_goals (simp_all [expR])

    | cons x rest =>
      have hlt := cut_lt he
      have hx := cutD encMd he
      simp only [encMd] at hx
      obtain ⟨hr1, hr2, hr3, hr4, hr5⟩ := md_row (exM own now (mx0 age)) he hI
      try simp only [encMd] at hx
      simp -implicitDefEqProofs only [SD, SF, SL, e_nf, reduceCtorEq, implies_true, ↓reduceIte, Nat.reduceEqDiff, Nat.reduceAdd, Nat.reduceMul, Nat.reduceSub, Nat.reduceLeDiff, Nat.reduceLT, Int.reduceLT, Int.reduceLE, Int.reduceEq, Int.reduceToNat, Int.reduceAdd, Int.reduceSub, Int.reduceNeg, Int.reduceBEq, Int.reduceBNe, Nat.reduceBEq, Int.cast_ofNat_Int, decide_true, decide_false, ne_eq, eq_self_iff_true, beq_eq_false_iff_ne, bne_iff_ne, List.replicate, encMd, hr1, hlt]
      intro hl
      have hw := wrap_len (n := pre.length) (m := (l).length) (cut_lt' he) (by simpa using hl)
      replace he := Hd.mk he
      simp only [encMd] at hr2
      have hxr := ex_ref (age := age) hck0 hn0 hn x (by rw [he.out]; simp)
      have hr6 := hr3 ⟨x.server, x.name, x.size, x.time, 3⟩
      simp only [encMd] at hr6
      replace hI := Hd.mk hI
      iterate 30 (all_goals (try (first
        | ((with_reducible refine back_in rest.length [24, 25, 26, 27, 28, 29, 30, 31, 32, 33, 34, 35, 36, 37, 38, 39, 40, 41, 42, 43, 44, 45, 46, 47, 48, 49, 50, 51, 52, 53, 54, 55, 56, 57, 58, 59] [] (pre ++ [x], rest, a) ?_ ⟨?_, ?_, ?_⟩ ?_)
           · simp
           · exact cut_snoc he.out
           · rfl
           · first | rfl | (apply hr4; simp [exM, oldB, *]; done) | (apply hr5; simp [exM, oldB, *]; done) | (apply hr4; simp_all [exM, oldB]; done) | (apply hr5; simp_all [exM, oldB]; done)
           · first | (simp -implicitDefEqProofs only [SD, SF, SL, e_nf, reduceCtorEq, implies_true, ↓reduceIte, Nat.reduceEqDiff, Nat.reduceAdd, Nat.reduceMul, Nat.reduceSub, Nat.reduceLeDiff, Nat.reduceLT, Int.reduceLT, Int.reduceLE, Int.reduceEq, Int.reduceToNat, Int.reduceAdd, Int.reduceSub, Int.reduceNeg, Int.reduceBEq, Int.reduceBNe, Nat.reduceBEq, Int.cast_ofNat_Int, decide_true, decide_false, ne_eq, eq_self_iff_true, beq_eq_false_iff_ne, bne_iff_ne, List.replicate, encMd, hr1] <;> simp <;> done) | (simp -implicitDefEqProofs only [SD, SF, SL, e_nf, reduceCtorEq, implies_true, ↓reduceIte, Nat.reduceEqDiff, Nat.reduceAdd, Nat.reduceMul, Nat.reduceSub, Nat.reduceLeDiff, Nat.reduceLT, Int.reduceLT, Int.reduceLE, Int.reduceEq, Int.reduceToNat, Int.reduceAdd, Int.reduceSub, Int.reduceNeg, Int.reduceBEq, Int.reduceBNe, Nat.reduceBEq, Int.cast_ofNat_Int, decide_true, decide_false, ne_eq, eq_self_iff_true, beq_eq_false_iff_ne, bne_iff_ne, List.replicate, encMd, hr1, *] <;> simp_all <;> done))
        | ((with_reducible refine back_in rest.length [24, 25, 26, 27, 28, 29, 30, 31, 32, 33, 34, 35, 36, 37, 38, 39, 40, 41, 42, 43, 44, 45, 46, 47, 48, 49, 50, 51, 52, 53, 54, 55, 56, 57, 58, 59] [] (pre ++ [x], rest, (a.set pre.length ⟨x.server, x.name, x.size, x.time, 3⟩)) ?_ ⟨?_, ?_, ?_⟩ ?_)
           · simp
           · exact cut_snoc he.out
           · rfl
           · first | rfl | (apply hr4; simp [exM, oldB, *]; done) | (apply hr5; simp [exM, oldB, *]; done) | (apply hr4; simp_all [exM, oldB]; done) | (apply hr5; simp_all [exM, oldB]; done)
           · first | (simp -implicitDefEqProofs only [SD, SF, SL, e_nf, reduceCtorEq, implies_true, ↓reduceIte, Nat.reduceEqDiff, Nat.reduceAdd, Nat.reduceMul, Nat.reduceSub, Nat.reduceLeDiff, Nat.reduceLT, Int.reduceLT, Int.reduceLE, Int.reduceEq, Int.reduceToNat, Int.reduceAdd, Int.reduceSub, Int.reduceNeg, Int.reduceBEq, Int.reduceBNe, Nat.reduceBEq, Int.cast_ofNat_Int, decide_true, decide_false, ne_eq, eq_self_iff_true, beq_eq_false_iff_ne, bne_iff_ne, List.replicate, encMd, hr1] <;> simp <;> done) | (simp -implicitDefEqProofs only [SD, SF, SL, e_nf, reduceCtorEq, implies_true, ↓reduceIte, Nat.reduceEqDiff, Nat.reduceAdd, Nat.reduceMul, Nat.reduceSub, Nat.reduceLeDiff, Nat.reduceLT, Int.reduceLT, Int.reduceLE, Int.reduceEq, Int.reduceToNat, Int.reduceAdd, Int.reduceSub, Int.reduceNeg, Int.reduceBEq, Int.reduceBNe, Nat.reduceBEq, Int.cast_ofNat_Int, decide_true, decide_false, ne_eq, eq_self_iff_true, beq_eq_false_iff_ne, bne_iff_ne, List.replicate, encMd, hr1, *] <;> simp_all <;> done))
        | (with_reducible refine ite_in (fun _ => ?_) (fun _ => ?_))
        | (with_reducible refine ⟨fun _ => ?_, fun _ => ?_⟩)
        | (with_reducible refine And.intro ?_ ?_)
        | (with_reducible intro _)
        | (with_reducible exact is_in _)
        | (simp -implicitDefEqProofs only [SD, SF, SL, e_nf, reduceCtorEq, implies_true, ↓reduceIte, Nat.reduceEqDiff, Nat.reduceAdd, Nat.reduceMul, Nat.reduceSub, Nat.reduceLeDiff, Nat.reduceLT, Int.reduceLT, Int.reduceLE, Int.reduceEq, Int.reduceToNat, Int.reduceAdd, Int.reduceSub, Int.reduceNeg, Int.reduceBEq, Int.reduceBNe, Nat.reduceBEq, Int.cast_ofNat_Int, decide_true, decide_false, ne_eq, eq_self_iff_true, beq_eq_false_iff_ne, bne_iff_ne, List.replicate, encMd, hr1, *]))))
      all_goals (simp_all [expR])

end Go.Proofs.Ytfcjmblhcakhaaa.E
