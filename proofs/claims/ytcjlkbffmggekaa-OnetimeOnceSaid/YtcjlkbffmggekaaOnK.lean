/-
  OnK: walks of functions of the program at data level.
-/
import Derived.Test.YtcjlkbffmggekaaProg
import Derived.Test.YtcjlkbffmggekaaEngZ
import Derived.Test.YtcjlkbffmggekaaOnJ
import Derived.KernelRfl
set_option linter.unusedVariables false
set_option linter.unusedSimpArgs false
namespace Go.Proofs.Ytcjlkbffmggekaa.E
open Go
set_option maxHeartbeats 4000000
set_option maxRecDepth 100000
set_option linter.unusedSimpArgs false
set_option linter.unusedVariables false
attribute [local congr] c_wp c_ops c_op c_opS c_run c_runS c_dt c_seq c_blk c_loop c_S c_put c_bind c_mv c_pick c_nt c_ng c_bin c_binI c_binS c_beq c_B c_eqa c_hd c_cells c_blkK c_box c_vec c_mp c_nck c_mks c_appn c_mkm c_mput c_mlk c_mrm c_take c_ld c_ldF c_cellsK c_st c_fld c_fldv c_ix c_ixp c_ixv c_ixs c_sub c_subs c_len c_lens c_src c_dst c_ow c_app c_ext c_mm c_conv c_str c_isn c_fill c_rows c_boxo c_frz c_frzO c_frzA c_frzV c_spec c_specO c_opsP c_opP c_runP c_specP c_Z c_qretP c_fz c_fn c_gv c_cond c_res1 c_resL c_ret c_qret c_ite c_unr c_nx c_bk c_cut c_is
attribute [local irreducible] dwp

theorem n_u8 (x : UInt8) (n : Nat) : ((x.toNat : Int) = n) = (x.toNat = n) := by
  apply propext
  constructor <;> intro h <;> omega
theorem mark_at' (x : UInt8) : Lib.indexByte [64] x.toNat.toUInt8 = if x = 64 then 0 else -1 := mark_at x
theorem u64 (x : UInt8) : (x.toNat = 64) = (x = 64) := by
  apply propext
  constructor
  · intro h
    exact UInt8.toNat_inj.1 h
  · rintro rfl
    rfl
theorem cons0 (x : UInt8) (t : List UInt8) : (x :: t).getD 0 0 = x := rfl
theorem cons_lt (x : UInt8) (t : List UInt8) : (0 : Int) < ((x :: t).length : Int) := by simp only [List.length_cons]; omega
theorem cons_le (x : UInt8) (t : List UInt8) : 1 ≤ (x :: t).length := by simp
theorem cons_take (x : UInt8) (t : List UInt8) : ((x :: t).take (x :: t).length).drop 1 = t := by simp
theorem cons_nil (x : UInt8) (t : List UInt8) : (x :: t = []) = False := by simp
theorem markX_cons (x : UInt8) (t : List UInt8) : markB (x :: t) 64 = (decide (x = 64) && nameOK t) := by
  simp only [markB, u64]
def ac40 : AC := (.seq (.ops [⟨(some 4), none, (.mv (.c (.str [])))⟩, ⟨(some 5), none, (.mv (.c (.str [])))⟩, ⟨(some 6), none, (.mv (.c (.bool false)))⟩]) (.seq (.seq (.ops [⟨(some 10), none, (.mv (.t 0))⟩, ⟨(some 11), none, (.bin .eql (.t 10) (.c (.str [])))⟩, ⟨(some 12), none, (.mv (.t 11))⟩, ⟨(some 13), (some (12, false)), (.mv (.t 1))⟩, ⟨(some 14), (some (12, false)), (.mv (.t 0))⟩, ⟨(some 15), (some (12, false)), (.ixs (.t 14) (.c (.int .i64 0)))⟩, ⟨(some 16), (some (12, false)), (.call false 45 [(.t 13), (.t 15)])⟩, ⟨(some 17), (some (12, false)), (.bin .lss (.t 16) (.c (.int .i64 0)))⟩, ⟨(some 18), none, (.pick (.t 12) (.c (.bool true)) (.t 17))⟩]) (.cond (.t 18) (.seq (.ops [⟨(some 4), none, (.mv (.c (.str [])))⟩, ⟨(some 5), none, (.mv (.c (.str [])))⟩, ⟨(some 6), none, (.mv (.c (.bool false)))⟩]) .ret) .skip)) (.seq (.ops [⟨(some 20), none, (.mv (.t 0))⟩, ⟨(some 21), none, (.subs (.t 20) (some (.c (.int .i64 1))) none)⟩, ⟨(some 22), none, (.call false 46 [(.t 21), (.c (.str [58]))])⟩, ⟨(some 19), none, (.mv (.t 22))⟩, ⟨(some 23), none, (.ext (.t 19) 0)⟩, ⟨(some 24), none, (.ext (.t 19) 1)⟩, ⟨(some 25), none, (.ext (.t 19) 2)⟩, ⟨(some 7), none, (.mv (.t 23))⟩, ⟨(some 8), none, (.mv (.t 24))⟩, ⟨(some 9), none, (.mv (.t 25))⟩]) (.seq (.seq (.ops [⟨(some 26), none, (.mv (.t 9))⟩, ⟨(some 27), none, (.nt (.t 26))⟩, ⟨(some 28), none, (.mv (.t 27))⟩, ⟨(some 29), (some (28, false)), (.mv (.t 7))⟩, ⟨(some 30), (some (28, false)), (.call false 47 [(.t 29)])⟩, ⟨(some 31), (some (28, false)), (.nt (.t 30))⟩, ⟨(some 32), none, (.pick (.t 28) (.c (.bool true)) (.t 31))⟩, ⟨(some 33), none, (.mv (.t 32))⟩, ⟨(some 34), (some (33, false)), (.mv (.t 8))⟩, ⟨(some 35), (some (33, false)), (.call false 48 [(.t 34)])⟩, ⟨(some 36), (some (33, false)), (.nt (.t 35))⟩, ⟨(some 37), none, (.pick (.t 33) (.c (.bool true)) (.t 36))⟩]) (.cond (.t 37) (.seq (.ops [⟨(some 4), none, (.mv (.c (.str [])))⟩, ⟨(some 5), none, (.mv (.c (.str [])))⟩, ⟨(some 6), none, (.mv (.c (.bool false)))⟩]) .ret) .skip)) (.seq (.ops [⟨(some 38), none, (.mv (.t 7))⟩, ⟨(some 39), none, (.mv (.t 8))⟩, ⟨(some 4), none, (.mv (.t 38))⟩, ⟨(some 5), none, (.mv (.t 39))⟩, ⟨(some 6), none, (.mv (.c (.bool true)))⟩]) .ret)))))
theorem tr40 : Try.f40.body.bind (trCode Try.prog) = some (strip ac40) := by kernel_rfl
theorem spec40 (s : List UInt8) (hb : s.length ≤ maxLen) : Spec Try.prog 40 [.fz (.str s), .fz (.str [64])] (.fz (.tup [.str (if markB s 64 = true then cut1 (s.drop 1) else []), .str (if markB s 64 = true then cut2 (s.drop 1) else []), .bool (markB s 64)])) := by
  refine spec_at (n := 38) (ars := [(.t 4), (.t 5), (.t 6)]) (ac := ac40) Try.func40 (by kernel_rfl) (by kernel_rfl) tr40 (by kernel_rfl) ?_
  unfold ac40
  cases s with
  | nil =>
    iterate 30 (all_goals (try (first
      | (with_reducible refine ite_in (fun _ => ?_) (fun _ => ?_))
      | (with_reducible refine ⟨fun _ => ?_, fun _ => ?_⟩)
      | (with_reducible refine And.intro ?_ ?_)
      | (with_reducible intro _)
      | (with_reducible exact is_in _)
      | (simp -implicitDefEqProofs only [SD, SF, SL, e_nf, reduceCtorEq, implies_true, ↓reduceIte, Nat.reduceEqDiff, Nat.reduceAdd, Nat.reduceMul, Nat.reduceSub, Nat.reduceLeDiff, Nat.reduceLT, Int.reduceLT, Int.reduceLE, Int.reduceEq, Int.reduceToNat, Int.reduceAdd, Int.reduceSub, Int.reduceNeg, Int.reduceBEq, Int.reduceBNe, Nat.reduceBEq, Int.cast_ofNat_Int, decide_true, decide_false, ne_eq, eq_self_iff_true, beq_eq_false_iff_ne, bne_iff_ne, List.replicate, markB, *]))))
    all_goals (first | rfl | decide)
  | cons x t =>
    have hbt : t.length ≤ maxLen := by simp at hb; omega
    have ht : (List.drop 1 (x :: t)) = t := rfl
    have hs0 : (x :: t).getD 0 0 = x := rfl
    have hs1 : (0 : Int) < ((x :: t).length : Int) := cons_lt x t
    have hs2 : 1 ≤ (x :: t).length := cons_le x t
    have hs3 : ¬ (x :: t) = [] := by simp
    rw [markX_cons, ht]
    generalize (x :: t) = s at *
    by_cases h64 : x = 64
    · have hmk : Lib.indexByte [64] x.toNat.toUInt8 = 0 := by rw [mark_at']; simp [h64]
      rw [show decide (x = 64) = true by simp [h64], Bool.true_and]
      clear h64
      iterate 30 (all_goals (try (first
        | ((with_reducible refine of_kSpec ?_); refine call_fz (spec45 [64] _) rfl ?_)
        | ((with_reducible refine of_kSpec ?_); refine call_fz (spec46 t hbt) rfl ?_)
        | ((with_reducible refine of_kSpec ?_); refine call_fz (spec47 _) rfl ?_)
        | ((with_reducible refine of_kSpec ?_); refine call_fz (spec48 _) rfl ?_)
        | (with_reducible refine ite_in (fun _ => ?_) (fun _ => ?_))
        | (with_reducible refine ⟨fun _ => ?_, fun _ => ?_⟩)
        | (with_reducible refine And.intro ?_ ?_)
        | (with_reducible intro _)
        | (with_reducible exact is_in _)
        | ((with_reducible refine eq_in ?_); (simp_all [nameOK]); done)
        | (simp -implicitDefEqProofs only [SD, SF, SL, e_nf, reduceCtorEq, implies_true, ↓reduceIte, Nat.reduceEqDiff, Nat.reduceAdd, Nat.reduceMul, Nat.reduceSub, Nat.reduceLeDiff, Nat.reduceLT, Int.reduceLT, Int.reduceLE, Int.reduceEq, Int.reduceToNat, Int.reduceAdd, Int.reduceSub, Int.reduceNeg, Int.reduceBEq, Int.reduceBNe, Nat.reduceBEq, Int.cast_ofNat_Int, decide_true, decide_false, ne_eq, eq_self_iff_true, beq_eq_false_iff_ne, bne_iff_ne, List.replicate, Int.toNat_natCast, List.take_length, *]))))
      all_goals (simp_all [nameOK])
    · have hmk : Lib.indexByte [64] x.toNat.toUInt8 = -1 := by rw [mark_at']; simp [h64]
      rw [show decide (x = 64) = false by simp [h64], Bool.false_and]
      clear h64
      iterate 30 (all_goals (try (first
        | ((with_reducible refine of_kSpec ?_); refine call_fz (spec45 [64] _) rfl ?_)
        | (with_reducible refine ite_in (fun _ => ?_) (fun _ => ?_))
        | (with_reducible refine ⟨fun _ => ?_, fun _ => ?_⟩)
        | (with_reducible refine And.intro ?_ ?_)
        | (with_reducible intro _)
        | (with_reducible exact is_in _)
        | ((with_reducible refine eq_in ?_); (simp_all [nameOK]); done)
        | (simp -implicitDefEqProofs only [SD, SF, SL, e_nf, reduceCtorEq, implies_true, ↓reduceIte, Nat.reduceEqDiff, Nat.reduceAdd, Nat.reduceMul, Nat.reduceSub, Nat.reduceLeDiff, Nat.reduceLT, Int.reduceLT, Int.reduceLE, Int.reduceEq, Int.reduceToNat, Int.reduceAdd, Int.reduceSub, Int.reduceNeg, Int.reduceBEq, Int.reduceBNe, Nat.reduceBEq, Int.cast_ofNat_Int, decide_true, decide_false, ne_eq, eq_self_iff_true, beq_eq_false_iff_ne, bne_iff_ne, List.replicate, Int.toNat_natCast, List.take_length, *]))))
      all_goals (simp_all [nameOK])

def ac38 : AC := (.seq (.ops [⟨(some 4), none, (.mv (.c (.bool false)))⟩]) (.seq (.seq (.ops [⟨(some 6), none, (.mv (.t 0))⟩, ⟨(some 7), none, (.lens (.t 6))⟩, ⟨(some 8), none, (.bin .lss (.t 7) (.c (.int .i64 1)))⟩, ⟨(some 9), none, (.mv (.t 8))⟩, ⟨(some 10), (some (9, false)), (.mv (.t 0))⟩, ⟨(some 11), (some (9, false)), (.ixs (.t 10) (.c (.int .i64 0)))⟩, ⟨(some 12), (some (9, false)), (.mv (.t 1))⟩, ⟨(some 13), (some (9, false)), (.bin .neq (.t 11) (.t 12))⟩, ⟨(some 14), none, (.pick (.t 9) (.c (.bool true)) (.t 13))⟩]) (.cond (.t 14) (.seq (.ops [⟨(some 4), none, (.mv (.c (.bool false)))⟩]) .ret) .skip)) (.seq (.ops [⟨(some 15), none, (.mv (.t 0))⟩, ⟨(some 16), none, (.call false 41 [(.t 15)])⟩, ⟨(some 5), none, (.mv (.t 16))⟩]) (.seq (.ops [⟨(some 17), none, (.mv (.t 5))⟩, ⟨(some 18), none, (.mv (.t 0))⟩, ⟨(some 19), none, (.lens (.t 18))⟩, ⟨(some 20), none, (.bin .lss (.t 17) (.t 19))⟩, ⟨(some 21), none, (.mv (.t 20))⟩, ⟨(some 22), (some (21, true)), (.mv (.t 0))⟩, ⟨(some 23), (some (21, true)), (.mv (.t 5))⟩, ⟨(some 24), (some (21, true)), (.subs (.t 22) (some (.c (.int .i64 1))) (some (.t 23)))⟩, ⟨(some 25), (some (21, true)), (.call false 42 [(.t 24)])⟩, ⟨(some 26), none, (.pick (.t 21) (.t 25) (.c (.bool false)))⟩, ⟨(some 27), none, (.mv (.t 26))⟩, ⟨(some 28), (some (27, true)), (.mv (.t 0))⟩, ⟨(some 29), (some (27, true)), (.mv (.t 5))⟩, ⟨(some 30), (some (27, true)), (.bin .add (.t 29) (.c (.int .i64 1)))⟩, ⟨(some 31), (some (27, true)), (.subs (.t 28) (some (.t 30)) none)⟩, ⟨(some 32), (some (27, true)), (.call false 43 [(.t 31)])⟩, ⟨(some 33), (some (27, true)), (.bin .eql (.t 32) (.c (.int .i64 0)))⟩, ⟨(some 34), none, (.pick (.t 27) (.t 33) (.c (.bool false)))⟩, ⟨(some 4), none, (.mv (.t 34))⟩]) .ret))))
theorem tr38 : Try.f38.body.bind (trCode Try.prog) = some (strip ac38) := by kernel_rfl
theorem spec64_38 (s : List UInt8) (hb : s.length ≤ maxLen) : Spec Try.prog 38 [.fz (.str s), .fz (.int .u8 64)] (.fz (.bool (markB s 64))) := by
  refine spec_at (n := 33) (ars := [(.t 4)]) (ac := ac38) Try.func38 (by kernel_rfl) (by kernel_rfl) tr38 (by kernel_rfl) ?_
  unfold ac38
  cases s with
  | nil =>
    iterate 30 (all_goals (try (first
      | (with_reducible refine ite_in (fun _ => ?_) (fun _ => ?_))
      | (with_reducible refine ⟨fun _ => ?_, fun _ => ?_⟩)
      | (with_reducible refine And.intro ?_ ?_)
      | (with_reducible intro _)
      | (with_reducible exact is_in _)
      | (simp -implicitDefEqProofs only [SD, SF, SL, e_nf, reduceCtorEq, implies_true, ↓reduceIte, Nat.reduceEqDiff, Nat.reduceAdd, Nat.reduceMul, Nat.reduceSub, Nat.reduceLeDiff, Nat.reduceLT, Int.reduceLT, Int.reduceLE, Int.reduceEq, Int.reduceToNat, Int.reduceAdd, Int.reduceSub, Int.reduceNeg, Int.reduceBEq, Int.reduceBNe, Nat.reduceBEq, Int.cast_ofNat_Int, decide_true, decide_false, ne_eq, eq_self_iff_true, beq_eq_false_iff_ne, bne_iff_ne, List.replicate, markB, *]))))
  | cons x t =>
    have hm : markB (x :: t) 64 = (decide (x = 64) && nameOK t) := by simp only [markB, u64]
    rw [hm]
    have hs0 : (x :: t).getD 0 0 = x := rfl
    have hs1 : (1 : Int) ≤ ((x :: t).length : Int) := by have := cons_lt x t; omega
    have hs4 : (0 : Int) < ((x :: t).length : Int) := by have := cons_lt x t; omega
    have hs2 : ((x :: t).length : Int) = ((t.length + 1 : Nat) : Int) := by simp
    by_cases h64 : x = 64
    · have hcc : colonN (x :: t) = colonN t + 1 := by
        rw [colon_cons, if_neg]
        rw [h64]
        decide
      have hle := colon_le t
      have hxn : (x.toNat : Int) = 64 := by rw [h64]; rfl
      rw [show decide (x = 64) = true by simp [h64], Bool.true_and]
      clear h64
      have h1 : (List.take (colonN t + 1) (x :: t)).drop 1 = t.take (colonN t) := by simp
      have h2 : (x :: t).drop (colonN t + 2) = t.drop (colonN t + 1) := by simp
      have h3 : colonN t + 1 ≤ (x :: t).length := by simp; omega
      have h4 : (1 : Nat) ≤ colonN t + 1 := by omega
      by_cases hc : colonN t < t.length
      · have hw : IntKind.i64.wrap (((colonN t + 1 : Nat) : Int) + 1) = ((colonN t + 2 : Nat) : Int) := by
          simp only [List.length_cons] at hb
          rw [wrap_in (by first | omega | (simp only [maxLen] at *; omega)) (by first | omega | (simp only [maxLen] at *; omega))]
          omega
        have h6 : ((colonN t + 1 : Nat) : Int) < ((x :: t).length : Int) := by omega
        have h7 : colonN t + 2 ≤ (x :: t).length := by simp; omega
        have h8 : nameOK t = (localB (t.take (colonN t)) && serverB (t.drop (colonN t + 1))) := by simp [nameOK, cut1, cut2, cut3, hc]
        clear hs2
        generalize (x :: t) = s at *
        iterate 30 (all_goals (try (first
          | ((with_reducible refine of_kSpec ?_); refine call_fz (spec41 s) rfl ?_)
          | ((with_reducible refine of_kSpec ?_); refine call_fz (spec42 _) rfl ?_)
          | ((with_reducible refine of_kSpec ?_); refine call_fz (spec43 _) rfl ?_)
          | (with_reducible refine ite_in (fun _ => ?_) (fun _ => ?_))
          | (with_reducible refine ⟨fun _ => ?_, fun _ => ?_⟩)
          | (with_reducible refine And.intro ?_ ?_)
          | (with_reducible intro _)
          | (with_reducible exact is_in _)
          | ((with_reducible refine eq_in ?_); (first | (simp_all; done) | omega); done)
          | (simp -implicitDefEqProofs only [SD, SF, SL, e_nf, reduceCtorEq, implies_true, ↓reduceIte, Nat.reduceEqDiff, Nat.reduceAdd, Nat.reduceMul, Nat.reduceSub, Nat.reduceLeDiff, Nat.reduceLT, Int.reduceLT, Int.reduceLE, Int.reduceEq, Int.reduceToNat, Int.reduceAdd, Int.reduceSub, Int.reduceNeg, Int.reduceBEq, Int.reduceBNe, Nat.reduceBEq, Int.cast_ofNat_Int, decide_true, decide_false, ne_eq, eq_self_iff_true, beq_eq_false_iff_ne, bne_iff_ne, List.replicate, Int.toNat_natCast, List.take_length, *]))))
        all_goals (first | (simp_all; done) | omega)
      · have h6 : ¬ ((colonN t + 1 : Nat) : Int) < ((x :: t).length : Int) := by omega
        have h8 : nameOK t = false := by simp [nameOK, cut3, hc]
        clear hs2
        generalize (x :: t) = s at *
        iterate 30 (all_goals (try (first
          | ((with_reducible refine of_kSpec ?_); refine call_fz (spec41 s) rfl ?_)
          | (with_reducible refine ite_in (fun _ => ?_) (fun _ => ?_))
          | (with_reducible refine ⟨fun _ => ?_, fun _ => ?_⟩)
          | (with_reducible refine And.intro ?_ ?_)
          | (with_reducible intro _)
          | (with_reducible exact is_in _)
          | ((with_reducible refine eq_in ?_); (first | (simp_all; done) | omega); done)
          | (simp -implicitDefEqProofs only [SD, SF, SL, e_nf, reduceCtorEq, implies_true, ↓reduceIte, Nat.reduceEqDiff, Nat.reduceAdd, Nat.reduceMul, Nat.reduceSub, Nat.reduceLeDiff, Nat.reduceLT, Int.reduceLT, Int.reduceLE, Int.reduceEq, Int.reduceToNat, Int.reduceAdd, Int.reduceSub, Int.reduceNeg, Int.reduceBEq, Int.reduceBNe, Nat.reduceBEq, Int.cast_ofNat_Int, decide_true, decide_false, ne_eq, eq_self_iff_true, beq_eq_false_iff_ne, bne_iff_ne, List.replicate, Int.toNat_natCast, List.take_length, *]))))
        all_goals (first | (simp_all; done) | omega)
    · have hxn : ¬ (x.toNat : Int) = 64 := by
        intro h
        apply h64
        apply UInt8.toNat_inj.1
        exact_mod_cast h
      rw [show decide (x = 64) = false by simp [h64], Bool.false_and]
      clear hm hs2 h64
      generalize (x :: t) = s at *
      iterate 30 (all_goals (try (first
        | (with_reducible refine ite_in (fun _ => ?_) (fun _ => ?_))
        | (with_reducible refine ⟨fun _ => ?_, fun _ => ?_⟩)
        | (with_reducible refine And.intro ?_ ?_)
        | (with_reducible intro _)
        | (with_reducible exact is_in _)
        | ((with_reducible refine eq_in ?_); (first | (simp_all; done) | omega); done)
        | (simp -implicitDefEqProofs only [SD, SF, SL, e_nf, reduceCtorEq, implies_true, ↓reduceIte, Nat.reduceEqDiff, Nat.reduceAdd, Nat.reduceMul, Nat.reduceSub, Nat.reduceLeDiff, Nat.reduceLT, Int.reduceLT, Int.reduceLE, Int.reduceEq, Int.reduceToNat, Int.reduceAdd, Int.reduceSub, Int.reduceNeg, Int.reduceBEq, Int.reduceBNe, Nat.reduceBEq, Int.cast_ofNat_Int, decide_true, decide_false, ne_eq, eq_self_iff_true, beq_eq_false_iff_ne, bne_iff_ne, List.replicate, Int.toNat_natCast, List.take_length, *]))))
      all_goals (first | (simp_all; done) | omega)


end Go.Proofs.Ytcjlkbffmggekaa.E
