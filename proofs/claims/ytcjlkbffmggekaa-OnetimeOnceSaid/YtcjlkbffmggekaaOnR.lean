/-
  OnR: walks of functions of the program at data level.
-/
import Derived.Test.YtcjlkbffmggekaaProg
import Derived.Test.YtcjlkbffmggekaaEngZ
import Derived.Test.YtcjlkbffmggekaaOnQ
import Derived.KernelRfl
set_option linter.unusedVariables false
set_option linter.unusedSimpArgs false
namespace Go.Proofs.Ytcjlkbffmggekaa.E
open Go
set_option maxHeartbeats 4000000
set_option maxRecDepth 100000
set_option linter.unusedSimpArgs false
set_option linter.unusedVariables false
attribute [local congr] c_wp c_ops c_op c_opS c_run c_runS c_dt c_seq c_blk c_loop c_S c_put c_bind c_mv c_pick c_nt c_ng c_bin c_binI c_binS c_beq c_B c_eqa c_hd c_cells c_blkK c_box c_vec c_mp c_nck c_mks c_appn c_mkm c_mput c_mlk c_mrm c_take c_ld c_ldF c_cellsK c_st c_fld c_fldv c_ix c_ixp c_ixv c_ixs c_sub c_subs c_len c_lens c_src c_dst c_ow c_app c_ext c_mm c_conv c_str c_isn c_fill c_rows c_boxo c_frz c_frzO c_frzA c_frzV c_spec c_specO c_opsP c_opP c_runP c_specP c_Z c_qretP c_fz c_fn c_gv c_cond c_res1 c_resL c_ret c_qret c_ite c_unr c_nx c_bk c_cut c_is
attribute [local irreducible] dwp

theorem loop_r {P : Program} {Q : AE → DS → Prop} {X : Type} {c : AC} {E : List DV} {M : Mem} (R : Nat → X → Prop) (pe : X → List (Nat × DV)) (pm : X → List (Nat × Blk)) (ts0 ks ks0 : List Nat) (n0 : Nat) (x0 : X) (hR : R n0 x0)
    (h0 : forget ts0 ks0 ⟨E, M⟩ = ⟨pE (pe x0) (forgetE ts0 E), pM (pm x0) (msort (mdels ks M))⟩)
    (hr : ∀ n x, R n x → dwp P c ⟨pE (pe x) (forgetE ts0 E), pM (pm x) (msort (mdels ks M))⟩
      (kLoop (kBk R (fun x => ⟨pE (pe x) (forgetE ts0 E), pM (pm x) (msort (mdels ks M))⟩) n) Q)) : dwp P (.loop c) ⟨E, M⟩ Q := by
  unfold dwp
  refine ⟨fun n s => ∃ x, R n x ∧ s = ⟨pE (pe x) (forgetE ts0 E), pM (pm x) (msort (mdels ks M))⟩, n0, ts0, ks0, ⟨x0, hR, h0⟩, ?_⟩
  rintro n s ⟨x, hx, rfl⟩
  exact hr n x hx
theorem row_len (x : OT) : (encOT x).length = 4 := rfl
theorem getD_len {l : List OT} {k : Nat} (h : k < l.length) : ((l.map encOT).getD k []).length = 4 := by
  simp [List.getD, List.getElem?_eq_getElem h, encOT]
def ac15 : AC := (.seq (.ops [⟨(some 6), none, (.mv (.c .e0))⟩, ⟨(some 7), none, (.mv (.c (.int .i64 0)))⟩, ⟨(some 8), none, (.mv (.c (.int .i64 0)))⟩]) (.seq (.seq (.ops [⟨(some 12), none, (.mv (.t 0))⟩, ⟨(some 13), none, (.call false 10 [(.t 12)])⟩, ⟨(some 9), none, (.mv (.t 13))⟩]) (.seq (.ops [⟨(some 14), none, (.mv (.t 9))⟩, ⟨(some 15), none, (.bin .neq (.t 14) (.c (.int .i64 0)))⟩]) (.cond (.t 15) (.seq (.ops [⟨(some 16), none, (.mv (.t 9))⟩, ⟨(some 6), none, (.mv (.c .e0))⟩, ⟨(some 7), none, (.mv (.c (.int .i64 0)))⟩, ⟨(some 8), none, (.mv (.t 16))⟩]) .ret) .skip))) (.seq (.ops [⟨(some 17), none, (.mv (.t 0))⟩, ⟨(some 18), none, (.mv (.t 1))⟩, ⟨(some 19), none, (.mv (.t 2))⟩, ⟨(some 20), none, (.call false 26 [(.t 17), (.t 18), (.t 19)])⟩, ⟨(some 10), none, (.mv (.t 20))⟩]) (.seq (.seq (.ops [⟨(some 21), none, (.mv (.t 10))⟩, ⟨(some 22), none, (.bin .lss (.t 21) (.c (.int .i64 0)))⟩, ⟨(some 23), none, (.mv (.t 22))⟩, ⟨(some 24), (some (23, false)), (.mv (.t 0))⟩, ⟨(some 25), (some (23, false)), (.mv (.t 10))⟩, ⟨(some 26), (some (23, false)), (.ix 4 (.t 24) (.t 25))⟩, ⟨(some 27), (some (23, false)), (.fld 3 (.t 26))⟩, ⟨(some 28), (some (23, false)), (.ld false 1 (.t 27))⟩, ⟨(some 29), (some (23, false)), (.bin .eql (.t 28) (.c (.int .i64 0)))⟩, ⟨(some 30), none, (.pick (.t 23) (.c (.bool true)) (.t 29))⟩]) (.cond (.t 30) (.seq (.ops [⟨(some 6), none, (.mv (.c .e0))⟩, ⟨(some 7), none, (.mv (.c (.int .i64 0)))⟩, ⟨(some 8), none, (.mv (.c (.int .i64 5)))⟩]) .ret) .skip)) (.seq (.ops [⟨(some 31), none, (.mv (.t 0))⟩, ⟨(some 32), none, (.call false 25 [(.t 31)])⟩, ⟨(some 11), none, (.mv (.t 32))⟩]) (.seq (.ops [⟨(some 33), none, (.mv (.t 11))⟩, ⟨(some 34), none, (.mv (.t 10))⟩, ⟨(some 35), none, (.ix 4 (.t 33) (.t 34))⟩, ⟨(some 36), none, (.fld 3 (.t 35))⟩, ⟨(some 37), none, (.ld false 1 (.t 36))⟩, ⟨(some 38), none, (.bin .sub (.t 37) (.c (.int .i64 1)))⟩, ⟨(some 39), none, (.ix 4 (.t 33) (.t 34))⟩, ⟨(some 40), none, (.fld 3 (.t 39))⟩, ⟨none, none, (.sto 1 (.t 40) (.t 38))⟩]) (.seq (.draw (.q false ⟨(some 41), none, (.mv (.t 11))⟩ (.q false ⟨(some 42), none, (.mv (.t 0))⟩ (.q false ⟨(some 43), none, (.mv (.t 10))⟩ (.q false ⟨(some 44), none, (.ix 4 (.t 42) (.t 43))⟩ (.q false ⟨(some 45), none, (.fld 2 (.t 44))⟩ (.q false ⟨(some 46), none, (.ld false 1 (.t 45))⟩ (.q false ⟨(some 47), none, (.mv (.t 0))⟩ (.q false ⟨(some 48), none, (.mv (.t 10))⟩ (.q false ⟨(some 49), none, (.ix 4 (.t 47) (.t 48))⟩ (.q false ⟨(some 50), none, (.fld 3 (.t 49))⟩ (.q false ⟨(some 51), none, (.ld false 1 (.t 50))⟩ (.q false ⟨(some 52), none, (.bin .sub (.t 46) (.t 51))⟩ (.q false ⟨(some 6), none, (.mv (.t 41))⟩ (.q false ⟨(some 7), none, (.mv (.t 52))⟩ (.q false ⟨(some 8), none, (.mv (.c (.int .i64 0)))⟩ .nil)))))))))))))))) .ret)))))))
theorem tr15 : Try.f15.body.bind (trCode Try.prog) = some (strip ac15) := by kernel_rfl
theorem spec15 (l : List OT) (u v : List UInt8) (hb : l.length ≤ 1000) : Spec Try.prog 15 [.fz (.sl 4 (l.map encOT)), .fz (.str u), .fz (.str v)] (.fz (.tup [.sl 4 ((clR l u v).1.map encOT), .int .i64 (clR l u v).2.1, .int .i64 (clR l u v).2.2])) := by
  refine spec_at (n := 50) (ars := [(.t 6), (.t 7), (.t 8)]) (ac := ac15) Try.func15 (by kernel_rfl) (by kernel_rfl) tr15 (by kernel_rfl) ?_
  unfold ac15
  rcases place_cases l u v 0 with ⟨hp, hf⟩ | ⟨pre, x, rest, he, hp, hf, hu, hsv, hnm⟩
  · skip
    have h1 : l.length ≤ maxLen := by simp only [maxLen]; omega
    have h2 : l.length * 48 ≤ 140737488355328 := by omega
    iterate 40 (all_goals (try (first
      | ((with_reducible refine of_kSpec ?_); refine call_fz (spec10 l) rfl ?_)
      | ((with_reducible refine of_kSpec ?_); refine call_fz (spec26 l u v) rfl ?_)
      | ((with_reducible refine of_kSpec ?_); refine call_ow (spec25 l hb) rfl ?_)
      | (with_reducible refine ite_in (fun _ => ?_) (fun _ => ?_))
      | (with_reducible refine ⟨fun _ => ?_, fun _ => ?_⟩)
      | (with_reducible refine And.intro ?_ ?_)
      | (with_reducible intro _)
      | (with_reducible exact is_in _)
      | (simp -implicitDefEqProofs only [SD, SF, SL, e_nf, reduceCtorEq, implies_true, ↓reduceIte, Nat.reduceEqDiff, Nat.reduceAdd, Nat.reduceMul, Nat.reduceSub, Nat.reduceLeDiff, Nat.reduceLT, Int.reduceLT, Int.reduceLE, Int.reduceEq, Int.reduceToNat, Int.reduceAdd, Int.reduceSub, Int.reduceNeg, Int.reduceBEq, Int.reduceBNe, Nat.reduceBEq, Int.cast_ofNat_Int, decide_true, decide_false, ne_eq, eq_self_iff_true, beq_eq_false_iff_ne, bne_iff_ne, List.replicate, encOT, decO, *]))))
    all_goals (first
      | (simp_all [clR]; done)
      | (have hq : clR l u v = (pre ++ decO x :: rest, IntKind.i64.wrap (x.next - x.left), 0) := by simp_all [clR]
         rw [hq, set_at he.out]
         first | exact .inl rfl | rfl | (simp_all [encOT, decO]; done))
      | omega)
  · rw [Nat.zero_add] at hp
    have hx := cutD encOT he
    simp only [encOT] at hx
    have hlt := cut_lt he
    have hlt2 := cut_lt' he
    have hge : ¬ ((pre.length : Int) < 0) := by omega
    obtain ⟨hg1, hs1, hl1⟩ := set_facts he
    replace he := Hd.mk he
    replace hsv := Hd.mk hsv
    replace hnm := Hd.mk hnm
    have h1 : l.length ≤ maxLen := by simp only [maxLen]; omega
    have h2 : l.length * 48 ≤ 140737488355328 := by omega
    iterate 40 (all_goals (try (first
      | ((with_reducible refine of_kSpec ?_); refine call_fz (spec10 l) rfl ?_)
      | ((with_reducible refine of_kSpec ?_); refine call_fz (spec26 l u v) rfl ?_)
      | ((with_reducible refine of_kSpec ?_); refine call_ow (spec25 l hb) rfl ?_)
      | (with_reducible refine ite_in (fun _ => ?_) (fun _ => ?_))
      | (with_reducible refine ⟨fun _ => ?_, fun _ => ?_⟩)
      | (with_reducible refine And.intro ?_ ?_)
      | (with_reducible intro _)
      | (with_reducible exact is_in _)
      | (simp -implicitDefEqProofs only [SD, SF, SL, e_nf, reduceCtorEq, implies_true, ↓reduceIte, Nat.reduceEqDiff, Nat.reduceAdd, Nat.reduceMul, Nat.reduceSub, Nat.reduceLeDiff, Nat.reduceLT, Int.reduceLT, Int.reduceLE, Int.reduceEq, Int.reduceToNat, Int.reduceAdd, Int.reduceSub, Int.reduceNeg, Int.reduceBEq, Int.reduceBNe, Nat.reduceBEq, Int.cast_ofNat_Int, decide_true, decide_false, ne_eq, eq_self_iff_true, beq_eq_false_iff_ne, bne_iff_ne, List.replicate, encOT, decO, *]))))
    all_goals (first
      | (simp_all [clR]; done)
      | (have hq : clR l u v = (pre ++ decO x :: rest, IntKind.i64.wrap (x.next - x.left), 0) := by simp_all [clR]
         rw [hq, set_at he.out]
         first | exact .inl rfl | rfl | (simp_all [encOT, decO]; done))
      | omega)

def ac16 : AC := (.seq (.ops [⟨(some 6), none, (.mv (.c .e0))⟩, ⟨(some 7), none, (.mv (.c (.int .i64 0)))⟩, ⟨(some 8), none, (.mv (.c (.int .i64 0)))⟩]) (.seq (.seq (.ops [⟨(some 12), none, (.mv (.t 0))⟩, ⟨(some 13), none, (.call false 11 [(.t 12)])⟩, ⟨(some 9), none, (.mv (.t 13))⟩]) (.seq (.ops [⟨(some 14), none, (.mv (.t 9))⟩, ⟨(some 15), none, (.bin .neq (.t 14) (.c (.int .i64 0)))⟩]) (.cond (.t 15) (.seq (.ops [⟨(some 16), none, (.mv (.t 9))⟩, ⟨(some 6), none, (.mv (.c .e0))⟩, ⟨(some 7), none, (.mv (.c (.int .i64 0)))⟩, ⟨(some 8), none, (.mv (.t 16))⟩]) .ret) .skip))) (.seq (.ops [⟨(some 17), none, (.mv (.t 0))⟩, ⟨(some 18), none, (.mv (.t 1))⟩, ⟨(some 19), none, (.mv (.t 2))⟩, ⟨(some 20), none, (.call false 28 [(.t 17), (.t 18), (.t 19)])⟩, ⟨(some 10), none, (.mv (.t 20))⟩]) (.seq (.seq (.ops [⟨(some 21), none, (.mv (.t 10))⟩, ⟨(some 22), none, (.bin .lss (.t 21) (.c (.int .i64 0)))⟩, ⟨(some 23), none, (.mv (.t 22))⟩, ⟨(some 24), (some (23, false)), (.mv (.t 0))⟩, ⟨(some 25), (some (23, false)), (.mv (.t 10))⟩, ⟨(some 26), (some (23, false)), (.ix 4 (.t 24) (.t 25))⟩, ⟨(some 27), (some (23, false)), (.fld 3 (.t 26))⟩, ⟨(some 28), (some (23, false)), (.ld false 1 (.t 27))⟩, ⟨(some 29), (some (23, false)), (.bin .eql (.t 28) (.c (.int .i64 0)))⟩, ⟨(some 30), none, (.pick (.t 23) (.c (.bool true)) (.t 29))⟩]) (.cond (.t 30) (.seq (.ops [⟨(some 6), none, (.mv (.c .e0))⟩, ⟨(some 7), none, (.mv (.c (.int .i64 0)))⟩, ⟨(some 8), none, (.mv (.c (.int .i64 5)))⟩]) .ret) .skip)) (.seq (.ops [⟨(some 31), none, (.buildSl 45 4 0 [(.str []), (.str []), (.int .i64 0), (.int .i64 0)] [])⟩, ⟨(some 32), none, (.mv (.t 0))⟩, ⟨(some 33), none, (.app 45 4 48 (.t 31) (.t 32))⟩, ⟨(some 11), none, (.mv (.t 33))⟩]) (.seq (.ops [⟨(some 34), none, (.mv (.t 11))⟩, ⟨(some 35), none, (.mv (.t 10))⟩, ⟨(some 36), none, (.mv (.t 0))⟩, ⟨(some 37), none, (.mv (.t 10))⟩, ⟨(some 38), none, (.ix 4 (.t 36) (.t 37))⟩, ⟨(some 39), none, (.fld 3 (.t 38))⟩, ⟨(some 40), none, (.ld false 1 (.t 39))⟩, ⟨(some 41), none, (.bin .sub (.t 40) (.c (.int .i64 1)))⟩, ⟨(some 42), none, (.ix 4 (.t 34) (.t 35))⟩, ⟨(some 43), none, (.fld 3 (.t 42))⟩, ⟨none, none, (.sto 1 (.t 43) (.t 41))⟩]) (.seq (.draw (.q false ⟨(some 44), none, (.mv (.t 11))⟩ (.q false ⟨(some 45), none, (.mv (.t 0))⟩ (.q false ⟨(some 46), none, (.mv (.t 10))⟩ (.q false ⟨(some 47), none, (.ix 4 (.t 45) (.t 46))⟩ (.q false ⟨(some 48), none, (.fld 2 (.t 47))⟩ (.q false ⟨(some 49), none, (.ld false 1 (.t 48))⟩ (.q false ⟨(some 50), none, (.mv (.t 0))⟩ (.q false ⟨(some 51), none, (.mv (.t 10))⟩ (.q false ⟨(some 52), none, (.ix 4 (.t 50) (.t 51))⟩ (.q false ⟨(some 53), none, (.fld 3 (.t 52))⟩ (.q false ⟨(some 54), none, (.ld false 1 (.t 53))⟩ (.q false ⟨(some 55), none, (.bin .sub (.t 49) (.t 54))⟩ (.q false ⟨(some 6), none, (.mv (.t 44))⟩ (.q false ⟨(some 7), none, (.mv (.t 55))⟩ (.q false ⟨(some 8), none, (.mv (.c (.int .i64 0)))⟩ .nil)))))))))))))))) .ret)))))))
theorem tr16 : Try.f16.body.bind (trCode Try.prog) = some (strip ac16) := by kernel_rfl
theorem spec16 (l : List OT) (u v : List UInt8) (hb : l.length ≤ 1000) : Spec Try.prog 16 [.fz (.sl 4 (l.map encOT)), .fz (.str u), .fz (.str v)] (.fz (.tup [.sl 4 ((clR l u v).1.map encOT), .int .i64 (clR l u v).2.1, .int .i64 (clR l u v).2.2])) := by
  refine spec_at (n := 53) (ars := [(.t 6), (.t 7), (.t 8)]) (ac := ac16) Try.func16 (by kernel_rfl) (by kernel_rfl) tr16 (by kernel_rfl) ?_
  unfold ac16
  rcases place_cases l u v 0 with ⟨hp, hf⟩ | ⟨pre, x, rest, he, hp, hf, hu, hsv, hnm⟩
  · skip
    have h1 : l.length ≤ maxLen := by simp only [maxLen]; omega
    have h2 : l.length * 48 ≤ 140737488355328 := by omega
    iterate 40 (all_goals (try (first
      | ((with_reducible refine of_kSpec ?_); refine call_fz (spec11 l) rfl ?_)
      | ((with_reducible refine of_kSpec ?_); refine call_fz (spec28 l u v) rfl ?_)
      | (with_reducible refine ite_in (fun _ => ?_) (fun _ => ?_))
      | (with_reducible refine ⟨fun _ => ?_, fun _ => ?_⟩)
      | (with_reducible refine And.intro ?_ ?_)
      | (with_reducible intro _)
      | (with_reducible exact is_in _)
      | (simp -implicitDefEqProofs only [SD, SF, SL, e_nf, reduceCtorEq, implies_true, ↓reduceIte, Nat.reduceEqDiff, Nat.reduceAdd, Nat.reduceMul, Nat.reduceSub, Nat.reduceLeDiff, Nat.reduceLT, Int.reduceLT, Int.reduceLE, Int.reduceEq, Int.reduceToNat, Int.reduceAdd, Int.reduceSub, Int.reduceNeg, Int.reduceBEq, Int.reduceBNe, Nat.reduceBEq, Int.cast_ofNat_Int, decide_true, decide_false, ne_eq, eq_self_iff_true, beq_eq_false_iff_ne, bne_iff_ne, List.replicate, encOT, decO, *]))))
    all_goals (first
      | (simp_all [clR]; done)
      | (have hq : clR l u v = (pre ++ decO x :: rest, IntKind.i64.wrap (x.next - x.left), 0) := by simp_all [clR]
         rw [hq, set_at he.out]
         first | exact .inl rfl | rfl | (simp_all [encOT, decO]; done))
      | omega)
  · rw [Nat.zero_add] at hp
    have hx := cutD encOT he
    simp only [encOT] at hx
    have hlt := cut_lt he
    have hlt2 := cut_lt' he
    have hge : ¬ ((pre.length : Int) < 0) := by omega
    obtain ⟨hg1, hs1, hl1⟩ := set_facts he
    replace he := Hd.mk he
    replace hsv := Hd.mk hsv
    replace hnm := Hd.mk hnm
    have h1 : l.length ≤ maxLen := by simp only [maxLen]; omega
    have h2 : l.length * 48 ≤ 140737488355328 := by omega
    iterate 40 (all_goals (try (first
      | ((with_reducible refine of_kSpec ?_); refine call_fz (spec11 l) rfl ?_)
      | ((with_reducible refine of_kSpec ?_); refine call_fz (spec28 l u v) rfl ?_)
      | (with_reducible refine ite_in (fun _ => ?_) (fun _ => ?_))
      | (with_reducible refine ⟨fun _ => ?_, fun _ => ?_⟩)
      | (with_reducible refine And.intro ?_ ?_)
      | (with_reducible intro _)
      | (with_reducible exact is_in _)
      | (simp -implicitDefEqProofs only [SD, SF, SL, e_nf, reduceCtorEq, implies_true, ↓reduceIte, Nat.reduceEqDiff, Nat.reduceAdd, Nat.reduceMul, Nat.reduceSub, Nat.reduceLeDiff, Nat.reduceLT, Int.reduceLT, Int.reduceLE, Int.reduceEq, Int.reduceToNat, Int.reduceAdd, Int.reduceSub, Int.reduceNeg, Int.reduceBEq, Int.reduceBNe, Nat.reduceBEq, Int.cast_ofNat_Int, decide_true, decide_false, ne_eq, eq_self_iff_true, beq_eq_false_iff_ne, bne_iff_ne, List.replicate, encOT, decO, *]))))
    all_goals (first
      | (simp_all [clR]; done)
      | (have hq : clR l u v = (pre ++ decO x :: rest, IntKind.i64.wrap (x.next - x.left), 0) := by simp_all [clR]
         rw [hq, set_at he.out]
         first | exact .inl rfl | rfl | (simp_all [encOT, decO]; done))
      | omega)


end Go.Proofs.Ytcjlkbffmggekaa.E
