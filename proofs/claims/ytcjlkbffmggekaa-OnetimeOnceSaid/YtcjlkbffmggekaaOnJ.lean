/-
  OnJ: walks of functions of the program at data level.
-/
import Derived.Test.YtcjlkbffmggekaaProg
import Derived.Test.YtcjlkbffmggekaaEngZ
import Derived.Test.YtcjlkbffmggekaaOnI0
import Derived.KernelRfl
set_option linter.unusedVariables false
set_option linter.unusedSimpArgs false
namespace Go.Proofs.Ytcjlkbffmggekaa.E
open Go
set_option maxHeartbeats 4000000
set_option maxRecDepth 100000
set_option linter.unusedSimpArgs false
set_option linter.unusedVariables false
attribute [local congr] c_wp c_ops c_op c_opS c_run c_runS c_dt c_seq c_blk c_loop c_S c_put c_bind c_mv c_pick c_nt c_ng c_bin c_binI c_binS c_beq c_B c_eqa c_hd c_cells c_blkK c_box c_vec c_mp c_nck c_mks c_appn c_mkm c_mput c_mlk c_mrm c_take c_ld c_ldF c_cellsK c_st c_fld c_fldv c_ix c_ixp c_ixv c_ixs c_sub c_subs c_len c_lens c_src c_dst c_ow c_app c_ext c_mm c_conv c_str c_isn c_fill c_rows c_boxo c_frz c_frzO c_frzA c_frzV c_spec c_specO c_opsP c_opP c_runP c_specP c_Z c_qretP c_fz c_fn c_gv c_cond c_res1 c_resL c_ret c_qret c_ite c_unr c_nx c_bk c_cut c_is
attribute [local irreducible] dwp

theorem colon_cons (x : UInt8) (t : List UInt8) : colonN (x :: t) = if x = 58 then 0 else colonN t + 1 := by
  unfold colonN
  rw [List.takeWhile_cons]
  by_cases h : x = 58 <;> simp [h]
theorem colon_le (t : List UInt8) : colonN t ≤ t.length := by
  induction t with
  | nil => simp [colonN]
  | cons x t ih => rw [colon_cons]; split <;> simp <;> omega
def idxC (t : List UInt8) : Int := if colonN t < t.length then colonN t else -1
theorem idxC_eq (t : List UInt8) : Lib.indexByte t 58 = idxC t := by
  induction t with
  | nil => rfl
  | cons x t ih =>
    have := colon_le t
    unfold idxC at *
    unfold Lib.indexByte
    rw [ih, colon_cons]
    by_cases h : x = 58
    · simp [h]
    · have hb : (x == 58) = false := by simpa using h
      rw [hb]
      simp only [h, if_false, List.length_cons]
      by_cases h2 : colonN t < t.length <;> simp [h2] <;> omega
theorem idxC' (t : List UInt8) : Lib.indexByte t (Int.toNat 58).toUInt8 = idxC t := idxC_eq t
theorem mark_at (x : UInt8) : Lib.indexByte [64] ((x.toNat : Int)).toNat.toUInt8 = if x = 64 then 0 else -1 := by
  have : ((x.toNat : Int)).toNat.toUInt8 = x := by simp
  rw [this]
  simp only [Lib.indexByte]
  by_cases h : x = 64
  · subst h
    rfl
  · have e1 : ((64 : UInt8) == x) = false := by simpa using fun h' => h h'.symm
    simp [e1, h]
def cut1 (t : List UInt8) : List UInt8 := if colonN t < t.length then t.take (colonN t) else t
def cut2 (t : List UInt8) : List UInt8 := if colonN t < t.length then t.drop (colonN t + 1) else []
def cut3 (t : List UInt8) : Bool := decide (colonN t < t.length)
def nameOK (t : List UInt8) : Bool := cut3 t && localB (cut1 t) && serverB (cut2 t)
def markB (s : List UInt8) (mk : Nat) : Bool := match s with
  | [] => false
  | x :: t => decide (x.toNat = mk) && nameOK t
def ac45 : AC := (.seq (.ops [⟨(some 4), none, (.mv (.c (.int .i64 0)))⟩]) (.seq (.ops [⟨(some 5), none, (.mv (.t 0))⟩, ⟨(some 6), none, (.mv (.t 1))⟩, ⟨(some 7), none, (.call false 50 [(.t 5), (.t 6)])⟩, ⟨(some 4), none, (.mv (.t 7))⟩]) .ret))
theorem tr45 : Try.f45.body.bind (trCode Try.prog) = some (strip ac45) := by kernel_rfl
theorem spec45 (l : List UInt8) (n : Int) : Spec Try.prog 45 [.fz (.str l), .fz (.int .u8 n)] (.fz (.int .i64 (Lib.indexByte l n.toNat.toUInt8))) := by
  refine spec_at (n := 6) (ars := [(.t 4)]) (ac := ac45) Try.func45 (by kernel_rfl) (by kernel_rfl) tr45 (by kernel_rfl) ?_
  unfold ac45
  iterate 30 (all_goals (try (first
    | ((with_reducible refine of_kSpec ?_); refine call_fz (spec50 l n) rfl ?_)
    | (with_reducible refine ite_in (fun _ => ?_) (fun _ => ?_))
    | (with_reducible refine ⟨fun _ => ?_, fun _ => ?_⟩)
    | (with_reducible refine And.intro ?_ ?_)
    | (with_reducible intro _)
    | (with_reducible exact is_in _)
    | (simp -implicitDefEqProofs only [SD, SF, SL, e_nf, reduceCtorEq, implies_true, ↓reduceIte, Nat.reduceEqDiff, Nat.reduceAdd, Nat.reduceMul, Nat.reduceSub, Nat.reduceLeDiff, Nat.reduceLT, Int.reduceLT, Int.reduceLE, Int.reduceEq, Int.reduceToNat, Int.reduceAdd, Int.reduceSub, Int.reduceNeg, Int.reduceBEq, Int.reduceBNe, Nat.reduceBEq, Int.cast_ofNat_Int, decide_true, decide_false, ne_eq, eq_self_iff_true, beq_eq_false_iff_ne, bne_iff_ne, List.replicate, *]))))
def ac57 : AC := (.seq (.ops [⟨(some 4), none, (.mv (.c (.int .i64 0)))⟩]) (.seq (.ops [⟨(some 14), none, (.mv (.t 1))⟩, ⟨(some 15), none, (.lens (.t 14))⟩, ⟨(some 5), none, (.mv (.t 15))⟩]) (.seq (.block 0 (.seq (.ops [⟨(some 17), none, (.mv (.t 5))⟩, ⟨(some 18), none, (.bin .eql (.t 17) (.c (.int .i64 0)))⟩, ⟨(some 19), none, (.mv (.t 18))⟩, ⟨(some 20), (some (19, false)), (.mv (.t 1))⟩, ⟨(some 21), (some (19, false)), (.mv (.t 0))⟩, ⟨(some 22), (some (19, false)), (.bin .eql (.t 20) (.t 21))⟩, ⟨(some 23), none, (.pick (.t 19) (.c (.bool true)) (.t 22))⟩, ⟨(some 16), none, (.mv (.t 23))⟩]) (.cond (.t 16) (.seq (.ops [⟨(some 4), none, (.mv (.c (.int .i64 0)))⟩]) .ret) (.seq (.ops [⟨(some 25), none, (.mv (.t 5))⟩, ⟨(some 26), none, (.bin .eql (.t 25) (.c (.int .i64 1)))⟩, ⟨(some 24), none, (.mv (.t 26))⟩]) (.cond (.t 24) (.seq (.ops [⟨(some 27), none, (.mv (.t 0))⟩, ⟨(some 28), none, (.mv (.t 1))⟩, ⟨(some 29), none, (.ixs (.t 28) (.c (.int .i64 0)))⟩, ⟨(some 30), none, (.call false 50 [(.t 27), (.t 29)])⟩, ⟨(some 4), none, (.mv (.t 30))⟩]) .ret) (.seq (.ops [⟨(some 32), none, (.mv (.t 5))⟩, ⟨(some 33), none, (.mv (.t 0))⟩, ⟨(some 34), none, (.lens (.t 33))⟩, ⟨(some 35), none, (.bin .geq (.t 32) (.t 34))⟩, ⟨(some 31), none, (.mv (.t 35))⟩]) (.cond (.t 31) (.seq (.ops [⟨(some 4), none, (.mv (.c (.int .i64 (-1))))⟩]) .ret) (.seq .bad (.cond (.t 36) (.seq (.ops [⟨(some 45), none, (.mv (.t 0))⟩, ⟨(some 46), none, (.mv (.t 1))⟩, ⟨(some 47), none, (.call false 58 [(.t 45), (.t 46)])⟩, ⟨(some 4), none, (.mv (.t 47))⟩]) .ret) .skip))))))))) (.seq (.ops [⟨(some 48), none, (.mv (.t 1))⟩, ⟨(some 49), none, (.ixs (.t 48) (.c (.int .i64 0)))⟩, ⟨(some 6), none, (.mv (.t 49))⟩]) (.seq (.ops [⟨(some 50), none, (.mv (.t 1))⟩, ⟨(some 51), none, (.ixs (.t 50) (.c (.int .i64 1)))⟩, ⟨(some 7), none, (.mv (.t 51))⟩]) (.seq (.ops [⟨(some 8), none, (.mv (.c (.int .i64 0)))⟩]) (.seq (.ops [⟨(some 52), none, (.mv (.t 0))⟩, ⟨(some 53), none, (.lens (.t 52))⟩, ⟨(some 54), none, (.mv (.t 5))⟩, ⟨(some 55), none, (.bin .sub (.t 53) (.t 54))⟩, ⟨(some 56), none, (.bin .add (.t 55) (.c (.int .i64 1)))⟩, ⟨(some 9), none, (.mv (.t 56))⟩]) (.seq (.ops [⟨(some 10), none, (.mv (.c (.int .i64 0)))⟩]) (.seq (.block 1 (.loop (.seq (.seq (.ops [⟨(some 57), none, (.mv (.t 8))⟩, ⟨(some 58), none, (.mv (.t 9))⟩, ⟨(some 59), none, (.bin .lss (.t 57) (.t 58))⟩]) (.cond (.t 59) .skip (.exit 1))) (.block 2 (.seq (.seq (.ops [⟨(some 60), none, (.mv (.t 0))⟩, ⟨(some 61), none, (.mv (.t 8))⟩, ⟨(some 62), none, (.ixs (.t 60) (.t 61))⟩, ⟨(some 63), none, (.mv (.t 6))⟩, ⟨(some 64), none, (.bin .neq (.t 62) (.t 63))⟩]) (.cond (.t 64) (.seq (.ops [⟨(some 65), none, (.mv (.t 0))⟩, ⟨(some 66), none, (.mv (.t 8))⟩, ⟨(some 67), none, (.bin .add (.t 66) (.c (.int .i64 1)))⟩, ⟨(some 68), none, (.mv (.t 9))⟩, ⟨(some 69), none, (.subs (.t 65) (some (.t 67)) (some (.t 68)))⟩, ⟨(some 70), none, (.mv (.t 6))⟩, ⟨(some 71), none, (.call false 50 [(.t 69), (.t 70)])⟩, ⟨(some 11), none, (.mv (.t 71))⟩]) (.seq (.seq (.ops [⟨(some 72), none, (.mv (.t 11))⟩, ⟨(some 73), none, (.bin .lss (.t 72) (.c (.int .i64 0)))⟩]) (.cond (.t 73) (.seq (.ops [⟨(some 4), none, (.mv (.c (.int .i64 (-1))))⟩]) .ret) .skip)) (.ops [⟨(some 74), none, (.mv (.t 8))⟩, ⟨(some 75), none, (.mv (.t 11))⟩, ⟨(some 76), none, (.bin .add (.t 75) (.c (.int .i64 1)))⟩, ⟨(some 77), none, (.bin .add (.t 74) (.t 76))⟩, ⟨(some 8), none, (.mv (.t 77))⟩]))) .skip)) (.seq (.seq (.ops [⟨(some 78), none, (.mv (.t 0))⟩, ⟨(some 79), none, (.mv (.t 8))⟩, ⟨(some 80), none, (.bin .add (.t 79) (.c (.int .i64 1)))⟩, ⟨(some 81), none, (.ixs (.t 78) (.t 80))⟩, ⟨(some 82), none, (.mv (.t 7))⟩, ⟨(some 83), none, (.bin .eql (.t 81) (.t 82))⟩, ⟨(some 84), none, (.mv (.t 83))⟩, ⟨(some 85), (some (84, true)), (.mv (.t 0))⟩, ⟨(some 86), (some (84, true)), (.mv (.t 8))⟩, ⟨(some 87), (some (84, true)), (.mv (.t 8))⟩, ⟨(some 88), (some (84, true)), (.mv (.t 5))⟩, ⟨(some 89), (some (84, true)), (.bin .add (.t 87) (.t 88))⟩, ⟨(some 90), (some (84, true)), (.subs (.t 85) (some (.t 86)) (some (.t 89)))⟩, ⟨(some 91), (some (84, true)), (.mv (.t 1))⟩, ⟨(some 92), (some (84, true)), (.bin .eql (.t 90) (.t 91))⟩, ⟨(some 93), none, (.pick (.t 84) (.t 92) (.c (.bool false)))⟩]) (.cond (.t 93) (.seq (.ops [⟨(some 94), none, (.mv (.t 8))⟩, ⟨(some 4), none, (.mv (.t 94))⟩]) .ret) .skip)) (.seq (.ops [⟨(some 95), none, (.mv (.t 8))⟩, ⟨(some 96), none, (.bin .add (.t 95) (.c (.int .i64 1)))⟩, ⟨(some 8), none, (.mv (.t 96))⟩]) (.seq (.ops [⟨(some 97), none, (.mv (.t 10))⟩, ⟨(some 98), none, (.bin .add (.t 97) (.c (.int .i64 1)))⟩, ⟨(some 10), none, (.mv (.t 98))⟩]) (.seq .bad (.cond (.t 107) (.seq (.ops [⟨(some 108), none, (.mv (.t 0))⟩, ⟨(some 109), none, (.mv (.t 8))⟩, ⟨(some 110), none, (.subs (.t 108) (some (.t 109)) none)⟩, ⟨(some 111), none, (.mv (.t 1))⟩, ⟨(some 112), none, (.call false 58 [(.t 110), (.t 111)])⟩, ⟨(some 12), none, (.mv (.t 112))⟩]) (.seq (.seq (.ops [⟨(some 113), none, (.mv (.t 12))⟩, ⟨(some 114), none, (.bin .geq (.t 113) (.c (.int .i64 0)))⟩]) (.cond (.t 114) (.seq (.ops [⟨(some 115), none, (.mv (.t 12))⟩, ⟨(some 116), none, (.mv (.t 8))⟩, ⟨(some 117), none, (.bin .add (.t 115) (.t 116))⟩, ⟨(some 4), none, (.mv (.t 117))⟩]) .ret) .skip)) (.seq (.ops [⟨(some 4), none, (.mv (.c (.int .i64 (-1))))⟩]) .ret))) (.seq .bad (.cond (.t 132) (.seq (.ops [⟨(some 133), none, (.mv (.t 0))⟩, ⟨(some 134), none, (.mv (.t 8))⟩, ⟨(some 135), none, (.subs (.t 133) (some (.t 134)) none)⟩, ⟨(some 136), none, (.mv (.t 1))⟩, ⟨(some 137), none, (.call false 60 [(.t 135), (.t 136)])⟩, ⟨(some 13), none, (.mv (.t 137))⟩]) (.seq (.seq (.ops [⟨(some 138), none, (.mv (.t 13))⟩, ⟨(some 139), none, (.bin .lss (.t 138) (.c (.int .i64 0)))⟩]) (.cond (.t 139) (.seq (.ops [⟨(some 4), none, (.mv (.c (.int .i64 (-1))))⟩]) .ret) .skip)) (.seq (.ops [⟨(some 140), none, (.mv (.t 8))⟩, ⟨(some 141), none, (.mv (.t 13))⟩, ⟨(some 142), none, (.bin .add (.t 140) (.t 141))⟩, ⟨(some 4), none, (.mv (.t 142))⟩]) .ret))) .skip)))))))))))) (.seq (.ops [⟨(some 4), none, (.mv (.c (.int .i64 (-1))))⟩]) .ret))))))))))
theorem tr57 : Try.f57.body.bind (trCode Try.prog) = some (strip ac57) := by kernel_rfl
theorem spec57 (s : List UInt8) : Spec Try.prog 57 [.fz (.str s), .fz (.str [58])] (.fz (.int .i64 (idxC s))) := by
  refine spec_at (n := 141) (ars := [(.t 4)]) (ac := ac57) Try.func57 (by kernel_rfl) (by kernel_rfl) tr57 (by kernel_rfl) ?_
  unfold ac57
  iterate 30 (all_goals (try (first
    | ((with_reducible refine of_kSpec ?_); refine call_fz (spec50 s 58) rfl ?_)
    | (with_reducible refine ite_in (fun _ => ?_) (fun _ => ?_))
    | (with_reducible refine ⟨fun _ => ?_, fun _ => ?_⟩)
    | (with_reducible refine And.intro ?_ ?_)
    | (with_reducible intro _)
    | (with_reducible exact is_in _)
    | (simp -implicitDefEqProofs only [SD, SF, SL, e_nf, reduceCtorEq, implies_true, ↓reduceIte, Nat.reduceEqDiff, Nat.reduceAdd, Nat.reduceMul, Nat.reduceSub, Nat.reduceLeDiff, Nat.reduceLT, Int.reduceLT, Int.reduceLE, Int.reduceEq, Int.reduceToNat, Int.reduceAdd, Int.reduceSub, Int.reduceNeg, Int.reduceBEq, Int.reduceBNe, Nat.reduceBEq, Int.cast_ofNat_Int, decide_true, decide_false, ne_eq, eq_self_iff_true, beq_eq_false_iff_ne, bne_iff_ne, List.replicate, idxC', *]))))
  all_goals (first | exact idxC_eq s | (subst_vars; rfl) | (subst_vars; decide))
def ac51 : AC := (.seq (.ops [⟨(some 4), none, (.mv (.c (.str [])))⟩, ⟨(some 5), none, (.mv (.c (.str [])))⟩, ⟨(some 6), none, (.mv (.c (.bool false)))⟩]) (.seq (.seq (.ops [⟨(some 8), none, (.mv (.t 0))⟩, ⟨(some 9), none, (.mv (.t 1))⟩, ⟨(some 10), none, (.call false 57 [(.t 8), (.t 9)])⟩, ⟨(some 7), none, (.mv (.t 10))⟩]) (.seq (.ops [⟨(some 11), none, (.mv (.t 7))⟩, ⟨(some 12), none, (.bin .geq (.t 11) (.c (.int .i64 0)))⟩]) (.cond (.t 12) (.seq (.draw (.q true ⟨(some 13), none, (.mv (.t 0))⟩ (.q true ⟨(some 14), none, (.mv (.t 7))⟩ (.q true ⟨(some 16), none, (.mv (.t 0))⟩ (.q true ⟨(some 17), none, (.mv (.t 7))⟩ (.q true ⟨(some 18), none, (.mv (.t 1))⟩ (.alt (.op ⟨(some 15), none, (.subs (.t 13) none (some (.t 14)))⟩ (.q true ⟨(some 4), none, (.mv (.t 15))⟩ (.op ⟨(some 19), none, (.lens (.t 18))⟩ (.q false ⟨(some 20), none, (.bin .add (.t 17) (.t 19))⟩ (.op ⟨(some 21), none, (.subs (.t 16) (some (.t 20)) none)⟩ (.q false ⟨(some 5), none, (.mv (.t 21))⟩ (.q false ⟨(some 6), none, (.mv (.c (.bool true)))⟩ .nil))))))) (.op ⟨(some 19), none, (.lens (.t 18))⟩ (.q true ⟨(some 20), none, (.bin .add (.t 17) (.t 19))⟩ (.alt (.op ⟨(some 15), none, (.subs (.t 13) none (some (.t 14)))⟩ (.q true ⟨(some 4), none, (.mv (.t 15))⟩ (.op ⟨(some 21), none, (.subs (.t 16) (some (.t 20)) none)⟩ (.q false ⟨(some 5), none, (.mv (.t 21))⟩ (.q false ⟨(some 6), none, (.mv (.c (.bool true)))⟩ .nil))))) (.op ⟨(some 21), none, (.subs (.t 16) (some (.t 20)) none)⟩ (.op ⟨(some 15), none, (.subs (.t 13) none (some (.t 14)))⟩ (.q false ⟨(some 4), none, (.mv (.t 15))⟩ (.q false ⟨(some 5), none, (.mv (.t 21))⟩ (.q false ⟨(some 6), none, (.mv (.c (.bool true)))⟩ .nil))))))))))))))) .ret) .skip))) (.seq (.ops [⟨(some 22), none, (.mv (.t 0))⟩, ⟨(some 4), none, (.mv (.t 22))⟩, ⟨(some 5), none, (.mv (.c (.str [])))⟩, ⟨(some 6), none, (.mv (.c (.bool false)))⟩]) .ret)))
theorem tr51 : Try.f51.body.bind (trCode Try.prog) = some (strip ac51) := by kernel_rfl
theorem spec51 (s : List UInt8) (hb : s.length ≤ maxLen) : Spec Try.prog 51 [.fz (.str s), .fz (.str [58])] (.fz (.tup [.str (cut1 s), .str (cut2 s), .bool (cut3 s)])) := by
  refine spec_at (n := 21) (ars := [(.t 4), (.t 5), (.t 6)]) (ac := ac51) Try.func51 (by kernel_rfl) (by kernel_rfl) tr51 (by kernel_rfl) ?_
  unfold ac51
  by_cases h : colonN s < s.length
  · have hi : idxC s = colonN s := by simp [idxC, h]
    have hw : IntKind.i64.wrap ((colonN s : Int) + 1) = ((colonN s + 1 : Nat) : Int) := by
      rw [wrap_in (by first | omega | (simp only [maxLen] at *; omega)) (by first | omega | (simp only [maxLen] at *; omega))]
      omega
    have h0 : colonN s ≤ s.length := by omega
    have h1 : colonN s + 1 ≤ s.length := by omega
    iterate 30 (all_goals (try (first
      | ((with_reducible refine of_kSpec ?_); refine call_fz (spec57 s) rfl ?_)
      | (with_reducible refine ite_in (fun _ => ?_) (fun _ => ?_))
      | (with_reducible refine ⟨fun _ => ?_, fun _ => ?_⟩)
      | (with_reducible refine And.intro ?_ ?_)
      | (with_reducible intro _)
      | (with_reducible exact is_in _)
      | (simp -implicitDefEqProofs only [SD, SF, SL, e_nf, reduceCtorEq, implies_true, ↓reduceIte, Nat.reduceEqDiff, Nat.reduceAdd, Nat.reduceMul, Nat.reduceSub, Nat.reduceLeDiff, Nat.reduceLT, Int.reduceLT, Int.reduceLE, Int.reduceEq, Int.reduceToNat, Int.reduceAdd, Int.reduceSub, Int.reduceNeg, Int.reduceBEq, Int.reduceBNe, Nat.reduceBEq, Int.cast_ofNat_Int, decide_true, decide_false, ne_eq, eq_self_iff_true, beq_eq_false_iff_ne, bne_iff_ne, List.replicate, *]))))
    all_goals (simp [cut1, cut2, cut3, h, List.take_length])
  · have hi : idxC s = -1 := by simp [idxC, h]
    iterate 30 (all_goals (try (first
      | ((with_reducible refine of_kSpec ?_); refine call_fz (spec57 s) rfl ?_)
      | (with_reducible refine ite_in (fun _ => ?_) (fun _ => ?_))
      | (with_reducible refine ⟨fun _ => ?_, fun _ => ?_⟩)
      | (with_reducible refine And.intro ?_ ?_)
      | (with_reducible intro _)
      | (with_reducible exact is_in _)
      | (simp -implicitDefEqProofs only [SD, SF, SL, e_nf, reduceCtorEq, implies_true, ↓reduceIte, Nat.reduceEqDiff, Nat.reduceAdd, Nat.reduceMul, Nat.reduceSub, Nat.reduceLeDiff, Nat.reduceLT, Int.reduceLT, Int.reduceLE, Int.reduceEq, Int.reduceToNat, Int.reduceAdd, Int.reduceSub, Int.reduceNeg, Int.reduceBEq, Int.reduceBNe, Nat.reduceBEq, Int.cast_ofNat_Int, decide_true, decide_false, ne_eq, eq_self_iff_true, beq_eq_false_iff_ne, bne_iff_ne, List.replicate, *]))))
    all_goals (simp [cut1, cut2, cut3, h])

def ac46 : AC := (.seq (.ops [⟨(some 4), none, (.mv (.c (.str [])))⟩, ⟨(some 5), none, (.mv (.c (.str [])))⟩, ⟨(some 6), none, (.mv (.c (.bool false)))⟩]) (.seq (.ops [⟨(some 7), none, (.mv (.t 0))⟩, ⟨(some 8), none, (.mv (.t 1))⟩, ⟨(some 9), none, (.call false 51 [(.t 7), (.t 8)])⟩, ⟨(some 10), none, (.ext (.t 9) 0)⟩, ⟨(some 11), none, (.ext (.t 9) 1)⟩, ⟨(some 12), none, (.ext (.t 9) 2)⟩, ⟨(some 4), none, (.mv (.t 10))⟩, ⟨(some 5), none, (.mv (.t 11))⟩, ⟨(some 6), none, (.mv (.t 12))⟩]) .ret))
theorem tr46 : Try.f46.body.bind (trCode Try.prog) = some (strip ac46) := by kernel_rfl
theorem spec46 (s : List UInt8) (hb : s.length ≤ maxLen) : Spec Try.prog 46 [.fz (.str s), .fz (.str [58])] (.fz (.tup [.str (cut1 s), .str (cut2 s), .bool (cut3 s)])) := by
  refine spec_at (n := 11) (ars := [(.t 4), (.t 5), (.t 6)]) (ac := ac46) Try.func46 (by kernel_rfl) (by kernel_rfl) tr46 (by kernel_rfl) ?_
  unfold ac46
  iterate 30 (all_goals (try (first
    | ((with_reducible refine of_kSpec ?_); refine call_fz (spec51 s hb) rfl ?_)
    | (with_reducible refine ite_in (fun _ => ?_) (fun _ => ?_))
    | (with_reducible refine ⟨fun _ => ?_, fun _ => ?_⟩)
    | (with_reducible refine And.intro ?_ ?_)
    | (with_reducible intro _)
    | (with_reducible exact is_in _)
    | (simp -implicitDefEqProofs only [SD, SF, SL, e_nf, reduceCtorEq, implies_true, ↓reduceIte, Nat.reduceEqDiff, Nat.reduceAdd, Nat.reduceMul, Nat.reduceSub, Nat.reduceLeDiff, Nat.reduceLT, Int.reduceLT, Int.reduceLE, Int.reduceEq, Int.reduceToNat, Int.reduceAdd, Int.reduceSub, Int.reduceNeg, Int.reduceBEq, Int.reduceBNe, Nat.reduceBEq, Int.cast_ofNat_Int, decide_true, decide_false, ne_eq, eq_self_iff_true, beq_eq_false_iff_ne, bne_iff_ne, List.replicate, *]))))

end Go.Proofs.Ytcjlkbffmggekaa.E
