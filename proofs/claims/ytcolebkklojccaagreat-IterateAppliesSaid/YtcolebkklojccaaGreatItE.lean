/-
  ItE: walks of functions of the program at data level.
-/
import Derived.Test.YtcolebkklojccaaGreatProg
import Derived.Test.YtcolebkklojccaaGreatEngZ
import Derived.Test.YtcolebkklojccaaGreatItD
import Derived.KernelRfl
set_option linter.unusedVariables false
set_option linter.unusedSimpArgs false
namespace Go.Proofs.YtcolebkklojccaaGreat.E
open Go
set_option maxHeartbeats 4000000
set_option maxRecDepth 100000
set_option linter.unusedSimpArgs false
set_option linter.unusedVariables false
attribute [local congr] c_wp c_ops c_op c_opS c_run c_runS c_dt c_seq c_blk c_loop c_S c_put c_bind c_mv c_pick c_nt c_ng c_bin c_binI c_binS c_beq c_B c_eqa c_hd c_cells c_blkK c_box c_vec c_mp c_nck c_mks c_appn c_mkm c_mput c_mlk c_mrm c_take c_ld c_ldF c_cellsK c_st c_fld c_fldv c_ix c_ixp c_ixv c_ixs c_sub c_subs c_len c_lens c_src c_dst c_ow c_app c_ext c_mm c_conv c_str c_isn c_fill c_rows c_boxo c_frz c_frzO c_frzA c_frzV c_spec c_specO c_opsP c_opP c_runP c_specP c_Z c_qretP c_fz c_fn c_gv c_cond c_res1 c_resL c_ret c_qret c_ite c_unr c_nx c_bk c_cut c_is
attribute [local irreducible] dwp

theorem cutD' {P : Program} {Q : AE → DS → Prop} {D b : AC} {s : DS} (S : DS) (h1 : dwp P D s (kCut (kIs S) Q)) (h2 : dwp P b S Q) : dwp P D s (kSeq (dwp P b) Q) := by
  have h := seq_is (a := D) (b := b) S h1 h2
  rw [e_sq] at h
  exact h
def acD20_0 : AC := (.draw (.q false ⟨(some 28), none, (.mv (.t 1))⟩ (.q false ⟨(some 29), none, (.mv (.t 7))⟩ (.q false ⟨(some 30), none, (.mv (.t 10))⟩ (.q false ⟨(some 31), none, (.ix 3 (.t 29) (.t 30))⟩ (.q false ⟨(some 32), none, (.fld 0 (.t 31))⟩ (.q false ⟨(some 33), none, (.ld false 1 (.t 32))⟩ (.q false ⟨(some 34), none, (.mv (.t 7))⟩ (.q false ⟨(some 35), none, (.mv (.t 10))⟩ (.q false ⟨(some 36), none, (.ix 3 (.t 34) (.t 35))⟩ (.q false ⟨(some 37), none, (.fld 1 (.t 36))⟩ (.q false ⟨(some 38), none, (.ld false 1 (.t 37))⟩ (.op ⟨(some 39), none, (.call false 40 [(.t 28), (.t 33), (.t 38)])⟩ (.q false ⟨(some 27), none, (.mv (.t 39))⟩ (.alt (.op ⟨(some 40), none, (.ext (.t 27) 0)⟩ (.q true ⟨(some 11), none, (.mv (.t 40))⟩ (.op ⟨(some 41), none, (.ext (.t 27) 1)⟩ (.q false ⟨(some 12), none, (.mv (.t 41))⟩ .nil)))) (.op ⟨(some 41), none, (.ext (.t 27) 1)⟩ (.op ⟨(some 40), none, (.ext (.t 27) 0)⟩ (.q false ⟨(some 11), none, (.mv (.t 40))⟩ (.q false ⟨(some 12), none, (.mv (.t 41))⟩ .nil)))))))))))))))))))
def acD20_1 : AC := (.draw (.q false ⟨(some 43), none, (.mv (.t 8))⟩ (.q false ⟨(some 44), none, (.mv (.t 7))⟩ (.q false ⟨(some 45), none, (.mv (.t 10))⟩ (.q false ⟨(some 46), none, (.ix 3 (.t 44) (.t 45))⟩ (.q false ⟨(some 47), none, (.fld 0 (.t 46))⟩ (.q false ⟨(some 48), none, (.ld false 1 (.t 47))⟩ (.q false ⟨(some 49), none, (.mv (.t 7))⟩ (.q false ⟨(some 50), none, (.mv (.t 10))⟩ (.q false ⟨(some 51), none, (.ix 3 (.t 49) (.t 50))⟩ (.q false ⟨(some 52), none, (.fld 1 (.t 51))⟩ (.q false ⟨(some 53), none, (.ld false 1 (.t 52))⟩ (.alt (.op ⟨(some 54), none, (.call false 41 [(.t 43), (.t 48), (.t 53)])⟩ (.q false ⟨(some 42), none, (.mv (.t 54))⟩ (.alt (.op ⟨(some 55), none, (.ext (.t 42) 0)⟩ (.alt (.op ⟨(some 56), none, (.ext (.t 42) 1)⟩ (.op ⟨(some 13), none, (.alloc [(.int .i64 0), (.str []), (.str []), (.int .i64 0), (.bool false), (.str []), (.int .i64 0), (.int .i64 0), .e0, .e0, (.str []), (.int .i64 0), (.int .i64 0), (.bool false), (.str []), .e0, .e0, .e0, .e0, (.int .i64 0), (.int .i64 0), (.int .i64 0), (.int .i64 0), (.int .i64 0), (.int .i64 0), (.int .i64 0), (.int .i64 0), (.str []), (.int .i64 0)])⟩ (.op ⟨none, none, (.sto 29 (.t 13) (.t 55))⟩ (.q false ⟨(some 14), none, (.mv (.t 56))⟩ .nil)))) (.op ⟨(some 13), none, (.alloc [(.int .i64 0), (.str []), (.str []), (.int .i64 0), (.bool false), (.str []), (.int .i64 0), (.int .i64 0), .e0, .e0, (.str []), (.int .i64 0), (.int .i64 0), (.bool false), (.str []), .e0, .e0, .e0, .e0, (.int .i64 0), (.int .i64 0), (.int .i64 0), (.int .i64 0), (.int .i64 0), (.int .i64 0), (.int .i64 0), (.int .i64 0), (.str []), (.int .i64 0)])⟩ (.alt (.op ⟨(some 56), none, (.ext (.t 42) 1)⟩ (.op ⟨none, none, (.sto 29 (.t 13) (.t 55))⟩ (.q false ⟨(some 14), none, (.mv (.t 56))⟩ .nil))) (.op ⟨none, none, (.sto 29 (.t 13) (.t 55))⟩ (.op ⟨(some 56), none, (.ext (.t 42) 1)⟩ (.q false ⟨(some 14), none, (.mv (.t 56))⟩ .nil))))))) (.alt (.op ⟨(some 56), none, (.ext (.t 42) 1)⟩ (.alt (.op ⟨(some 55), none, (.ext (.t 42) 0)⟩ (.op ⟨(some 13), none, (.alloc [(.int .i64 0), (.str []), (.str []), (.int .i64 0), (.bool false), (.str []), (.int .i64 0), (.int .i64 0), .e0, .e0, (.str []), (.int .i64 0), (.int .i64 0), (.bool false), (.str []), .e0, .e0, .e0, .e0, (.int .i64 0), (.int .i64 0), (.int .i64 0), (.int .i64 0), (.int .i64 0), (.int .i64 0), (.int .i64 0), (.int .i64 0), (.str []), (.int .i64 0)])⟩ (.op ⟨none, none, (.sto 29 (.t 13) (.t 55))⟩ (.q false ⟨(some 14), none, (.mv (.t 56))⟩ .nil)))) (.op ⟨(some 13), none, (.alloc [(.int .i64 0), (.str []), (.str []), (.int .i64 0), (.bool false), (.str []), (.int .i64 0), (.int .i64 0), .e0, .e0, (.str []), (.int .i64 0), (.int .i64 0), (.bool false), (.str []), .e0, .e0, .e0, .e0, (.int .i64 0), (.int .i64 0), (.int .i64 0), (.int .i64 0), (.int .i64 0), (.int .i64 0), (.int .i64 0), (.int .i64 0), (.str []), (.int .i64 0)])⟩ (.op ⟨(some 55), none, (.ext (.t 42) 0)⟩ (.op ⟨none, none, (.sto 29 (.t 13) (.t 55))⟩ (.q false ⟨(some 14), none, (.mv (.t 56))⟩ .nil)))))) (.op ⟨(some 13), none, (.alloc [(.int .i64 0), (.str []), (.str []), (.int .i64 0), (.bool false), (.str []), (.int .i64 0), (.int .i64 0), .e0, .e0, (.str []), (.int .i64 0), (.int .i64 0), (.bool false), (.str []), .e0, .e0, .e0, .e0, (.int .i64 0), (.int .i64 0), (.int .i64 0), (.int .i64 0), (.int .i64 0), (.int .i64 0), (.int .i64 0), (.int .i64 0), (.str []), (.int .i64 0)])⟩ (.alt (.op ⟨(some 55), none, (.ext (.t 42) 0)⟩ (.alt (.op ⟨(some 56), none, (.ext (.t 42) 1)⟩ (.op ⟨none, none, (.sto 29 (.t 13) (.t 55))⟩ (.q false ⟨(some 14), none, (.mv (.t 56))⟩ .nil))) (.op ⟨none, none, (.sto 29 (.t 13) (.t 55))⟩ (.op ⟨(some 56), none, (.ext (.t 42) 1)⟩ (.q false ⟨(some 14), none, (.mv (.t 56))⟩ .nil))))) (.op ⟨(some 56), none, (.ext (.t 42) 1)⟩ (.op ⟨(some 55), none, (.ext (.t 42) 0)⟩ (.op ⟨none, none, (.sto 29 (.t 13) (.t 55))⟩ (.q false ⟨(some 14), none, (.mv (.t 56))⟩ .nil)))))))))) (.op ⟨(some 13), none, (.alloc [(.int .i64 0), (.str []), (.str []), (.int .i64 0), (.bool false), (.str []), (.int .i64 0), (.int .i64 0), .e0, .e0, (.str []), (.int .i64 0), (.int .i64 0), (.bool false), (.str []), .e0, .e0, .e0, .e0, (.int .i64 0), (.int .i64 0), (.int .i64 0), (.int .i64 0), (.int .i64 0), (.int .i64 0), (.int .i64 0), (.int .i64 0), (.str []), (.int .i64 0)])⟩ (.op ⟨(some 54), none, (.call false 41 [(.t 43), (.t 48), (.t 53)])⟩ (.q false ⟨(some 42), none, (.mv (.t 54))⟩ (.alt (.op ⟨(some 55), none, (.ext (.t 42) 0)⟩ (.alt (.op ⟨(some 56), none, (.ext (.t 42) 1)⟩ (.op ⟨none, none, (.sto 29 (.t 13) (.t 55))⟩ (.q false ⟨(some 14), none, (.mv (.t 56))⟩ .nil))) (.op ⟨none, none, (.sto 29 (.t 13) (.t 55))⟩ (.op ⟨(some 56), none, (.ext (.t 42) 1)⟩ (.q false ⟨(some 14), none, (.mv (.t 56))⟩ .nil))))) (.op ⟨(some 56), none, (.ext (.t 42) 1)⟩ (.op ⟨(some 55), none, (.ext (.t 42) 0)⟩ (.op ⟨none, none, (.sto 29 (.t 13) (.t 55))⟩ (.q false ⟨(some 14), none, (.mv (.t 56))⟩ .nil)))))))))))))))))))))
def ac20 : AC := (.seq (.ops [⟨(some 5), none, (.box (.t 2))⟩, ⟨(some 6), none, (.mv (.c .e0))⟩]) (.seq (.ops [⟨(some 15), none, (.ld true 29 (.t 5))⟩, ⟨(some 16), none, (.call false 38 [(.t 15)])⟩, ⟨(some 7), none, (.mv (.t 16))⟩]) (.seq (.ops [⟨(some 17), none, (.mv (.t 0))⟩, ⟨(some 18), none, (.fld 9 (.t 5))⟩, ⟨(some 19), none, (.ld false 1 (.t 18))⟩, ⟨(some 20), none, (.call false 39 [(.t 17), (.t 19)])⟩, ⟨(some 8), none, (.mv (.t 20))⟩]) (.seq (.ops [⟨(some 9), none, (.mv (.c .e0))⟩]) (.seq (.seq (.ops [⟨(some 10), none, (.mv (.c (.int .i64 0)))⟩]) (.block 0 (.loop (.seq (.seq (.ops [⟨(some 21), none, (.mv (.t 10))⟩, ⟨(some 22), none, (.mv (.t 7))⟩, ⟨(some 23), none, (.len (.t 22))⟩, ⟨(some 24), none, (.bin .lss (.t 21) (.t 23))⟩]) (.cond (.t 24) .skip (.exit 0))) (.seq (.block 1 (.seq acD20_0 (.seq acD20_1 (.seq (.seq (.ops [⟨(some 57), none, (.mv (.t 12))⟩]) (.cond (.t 57) (.ops [⟨(some 59), none, (.mv (.t 0))⟩, ⟨(some 60), none, (.mv (.t 11))⟩, ⟨(some 61), none, (.call false 17 [(.t 59), (.t 60)])⟩, ⟨(some 58), none, (.mv (.t 61))⟩, ⟨(some 62), none, (.ext (.t 58) 0)⟩, ⟨(some 63), none, (.ext (.t 58) 1)⟩, ⟨none, none, (.sto 29 (.t 13) (.t 62))⟩, ⟨(some 14), none, (.mv (.t 63))⟩]) .skip)) (.seq (.ops [⟨(some 64), none, (.mv (.t 14))⟩]) (.cond (.t 64) (.ops [⟨(some 65), none, (.mv (.t 9))⟩, ⟨(some 66), none, (.ld true 29 (.t 13))⟩, ⟨(some 67), none, (.buildSl 46 29 1 [(.int .i64 0), (.str []), (.str []), (.int .i64 0), (.bool false), (.str []), (.int .i64 0), (.int .i64 0), .e0, .e0, (.str []), (.int .i64 0), (.int .i64 0), (.bool false), (.str []), .e0, .e0, .e0, .e0, (.int .i64 0), (.int .i64 0), (.int .i64 0), (.int .i64 0), (.int .i64 0), (.int .i64 0), (.int .i64 0), (.int .i64 0), (.str []), (.int .i64 0)] [(0, (.t 66))])⟩, ⟨(some 68), none, (.app 46 29 376 (.t 65) (.t 67))⟩, ⟨(some 9), none, (.mv (.t 68))⟩]) .skip)))))) (.ops [⟨(some 25), none, (.mv (.t 10))⟩, ⟨(some 26), none, (.bin .add (.t 25) (.c (.int .i64 1)))⟩, ⟨(some 10), none, (.mv (.t 26))⟩])))))) (.seq (.ops [⟨(some 69), none, (.mv (.t 9))⟩, ⟨(some 6), none, (.mv (.t 69))⟩]) .ret))))))
theorem tr20 : Tryz.f20.body.bind (trCode Tryz.prog) = some (strip ac20) := by kernel_rfl
theorem spec20 (es : List Ev) (st : List Ent) (e : Ev) (hb : st.length ≤ 1000) (ha : e.auth.length ≤ 1000) : Spec Tryz.prog 20 [.fz (.sl 29 (es.map encEv)), .fz (.sl 3 (st.map encEnt)), .fz (.agg (encEv e))] (.fz (.sl 29 ((baseG getL es st e).map encEv))) := by
  refine spec_at (n := 67) (ars := [(.t 6)]) (ac := ac20) Tryz.func20 (by kernel_rfl) (by kernel_rfl) tr20 (by kernel_rfl) ?_
  unfold ac20
  have hk5 := len_keysE e
  iterate 12 (all_goals (try (first
    | ((with_reducible refine of_kSpec ?_)
       refine call_sub (ds' := [.agg (encEv e)]) (spec38 e) rfl ?_ ?_
       · simp -implicitDefEqProofs only [SD, SF, SL, e_nf, reduceCtorEq, implies_true, ↓reduceIte, Nat.reduceEqDiff, Nat.reduceAdd, Nat.reduceMul, Nat.reduceSub, Nat.reduceLeDiff, Nat.reduceLT, Int.reduceLT, Int.reduceLE, Int.reduceEq, Int.reduceToNat, Int.reduceAdd, Int.reduceSub, Int.reduceNeg, Int.reduceBEq, Int.reduceBNe, Nat.reduceBEq, Int.cast_ofNat_Int, decide_true, decide_false, ne_eq, eq_self_iff_true, beq_eq_false_iff_ne, bne_iff_ne, List.replicate, encEv, *]
         done)
    | ((with_reducible refine of_kSpec ?_); refine call_fz (spec39 es e.auth ha) rfl ?_)
    | (with_reducible refine ite_in (fun _ => ?_) (fun _ => ?_))
    | (with_reducible refine ⟨fun _ => ?_, fun _ => ?_⟩)
    | (with_reducible refine And.intro ?_ ?_)
    | (with_reducible intro _)
    | (with_reducible exact is_in _)
    | (simp -implicitDefEqProofs only [SD, SF, SL, e_nf, reduceCtorEq, implies_true, ↓reduceIte, Nat.reduceEqDiff, Nat.reduceAdd, Nat.reduceMul, Nat.reduceSub, Nat.reduceLeDiff, Nat.reduceLT, Int.reduceLT, Int.reduceLE, Int.reduceEq, Int.reduceToNat, Int.reduceAdd, Int.reduceSub, Int.reduceNeg, Int.reduceBEq, Int.reduceBNe, Nat.reduceBEq, Int.cast_ofNat_Int, decide_true, decide_false, ne_eq, eq_self_iff_true, beq_eq_false_iff_ne, bne_iff_ne, List.replicate, encEv, *]))))
  all_goals try omega
  refine loop_r (X := List Ent × List Ent × (DV × List (Nat × Blk))) (fun n x => (keysE e) = x.1 ++ x.2.1 ∧ n = x.2.1.length ∧ ((x.1.filterMap (pickG getL es st (ofL es e.auth)) = [] ∧ x.2.2 = (DV.e0, [])) ∨ x.2.2 = (DV.ow 68, [(68, Blk.vec 46 29 ((x.1.filterMap (pickG getL es st (ofL es e.auth))).map encEv))]))) (fun x => [(10, .int .i64 x.1.length), (9, x.2.2.1)]) (fun x => x.2.2.2) [11, 12, 13, 14, 21, 22, 23, 24, 25, 26, 27, 28, 29, 30, 31, 32, 33, 34, 35, 36, 37, 38, 39, 40, 41, 42, 43, 44, 45, 46, 47, 48, 49, 50, 51, 52, 53, 54, 55, 56, 57, 58, 59, 60, 61, 62, 63, 64, 65, 66, 67, 68] [13, 67, 68] [13, 67] ((keysE e)).length ([], (keysE e), (DV.e0, [])) ⟨rfl, rfl, by exact .inl ⟨rfl, rfl⟩⟩ ?_ ?_
  · simp -implicitDefEqProofs only [SD, SF, SL, e_nf, reduceCtorEq, implies_true, ↓reduceIte, Nat.reduceEqDiff, Nat.reduceAdd, Nat.reduceMul, Nat.reduceSub, Nat.reduceLeDiff, Nat.reduceLT, Int.reduceLT, Int.reduceLE, Int.reduceEq, Int.reduceToNat, Int.reduceAdd, Int.reduceSub, Int.reduceNeg, Int.reduceBEq, Int.reduceBNe, Nat.reduceBEq, Int.cast_ofNat_Int, decide_true, decide_false, ne_eq, eq_self_iff_true, beq_eq_false_iff_ne, bne_iff_ne, List.replicate, encEv, encEnt, zE, encN, evOf_n, evOf_s, isS_n, isS_s] <;> simp
  · rintro n ⟨pre, rest, a⟩ ⟨he, rfl, hI⟩
    dsimp only at he hI
    cases rest with
    | nil =>
      obtain rfl : (keysE e) = pre := by simpa using he
      clear he
      have hlt : ¬ ((((keysE e)).length : Int) < (((keysE e)).length : Int)) := Int.lt_irrefl _
      rcases hI with ⟨hl0, rfl⟩ | rfl
      all_goals try replace hl0 := Hd.mk hl0
      iterate 80 (all_goals (try (first
        | (with_reducible refine ite_in (fun _ => ?_) (fun _ => ?_))
        | (with_reducible refine ⟨fun _ => ?_, fun _ => ?_⟩)
        | (with_reducible refine And.intro ?_ ?_)
        | (with_reducible intro _)
        | (with_reducible exact is_in _)
        | (simp -implicitDefEqProofs only [SD, SF, SL, e_nf, reduceCtorEq, implies_true, ↓reduceIte, Nat.reduceEqDiff, Nat.reduceAdd, Nat.reduceMul, Nat.reduceSub, Nat.reduceLeDiff, Nat.reduceLT, Int.reduceLT, Int.reduceLE, Int.reduceEq, Int.reduceToNat, Int.reduceAdd, Int.reduceSub, Int.reduceNeg, Int.reduceBEq, Int.reduceBNe, Nat.reduceBEq, Int.cast_ofNat_Int, decide_true, decide_false, ne_eq, eq_self_iff_true, beq_eq_false_iff_ne, bne_iff_ne, List.replicate, encEv, encEnt, zE, encN, evOf_n, evOf_s, isS_n, isS_s, *]))))
      all_goals (first | decide | (simp only [maxLen, List.length_append, List.length_map, List.length_cons, List.length_nil] <;> omega) | omega | (rw [show baseG getL es st e = (keysE e).filterMap (pickG getL es st (ofL es e.auth)) from rfl, hl0.out]; first | exact .inl rfl | rfl | simp) | exact .inl rfl | (simp_all; done) | trace_state)

    | cons x rest =>
      have hlt := cut_lt he
      have hx := cutD encEnt he
      simp only [encEnt] at hx
      simp -implicitDefEqProofs only [SD, SF, SL, e_nf, reduceCtorEq, implies_true, ↓reduceIte, Nat.reduceEqDiff, Nat.reduceAdd, Nat.reduceMul, Nat.reduceSub, Nat.reduceLeDiff, Nat.reduceLT, Int.reduceLT, Int.reduceLE, Int.reduceEq, Int.reduceToNat, Int.reduceAdd, Int.reduceSub, Int.reduceNeg, Int.reduceBEq, Int.reduceBNe, Nat.reduceBEq, Int.cast_ofNat_Int, decide_true, decide_false, ne_eq, eq_self_iff_true, beq_eq_false_iff_ne, bne_iff_ne, List.replicate, encEv, encEnt, zE, encN, evOf_n, evOf_s, isS_n, isS_s, hlt]
      intro hl
      have hw := wrap_len (n := pre.length) (m := ((keysE e)).length) (cut_lt' he) (by simp only [maxLen]; omega)
      replace he := Hd.mk he
      have hz1 := cut_lt' he.out
      have hlo : (pre.filterMap (pickG getL es st (ofL es e.auth))).length ≤ pre.length := List.length_filterMap_le _ _
      have hz2 : (pre.filterMap (pickG getL es st (ofL es e.auth))).length + 1 ≤ maxLen := by simp only [maxLen]; omega
      have hz3 : ((pre.filterMap (pickG getL es st (ofL es e.auth))).length + 1) * 376 ≤ 140737488355328 := by omega
      rcases pick_cases getL es st (ofL es e.auth) x with ⟨gi, hg, hf, hpk⟩ | ⟨gi, v, hg, hf, hpk⟩ | ⟨gi, hg, hf, hpk⟩ | ⟨gi, v, hg, hf, hpk⟩
      all_goals first | have hsn := pf_none (l := pre) hpk | have hsn := pf_some (l := pre) hpk
      all_goals clear hpk
      all_goals rcases hI with ⟨hp0, rfl⟩ | rfl
      all_goals try replace hp0 := Hd.mk hp0
      all_goals replace hsn := Hd.mk hsn
      iterate 80 (all_goals (try (first
        | (with_reducible refine cutD' (D := acD20_0) ?_ ?_ ?_
           rotate_left
           · unfold acD20_0
             iterate 40 (all_goals (try (first
               | ((with_reducible refine of_kSpec ?_); refine call_fz (spec41 (ofL es e.auth) x.kind x.key) rfl ?_)
               | ((with_reducible refine of_kSpec ?_); refine call_fz (spec40 st x.kind x.key) rfl ?_)
               | ((with_reducible refine of_kSpec ?_); refine call_fz (spec17 es _) rfl ?_)
               | (with_reducible refine ite_in (fun _ => ?_) (fun _ => ?_))
               | (with_reducible refine ⟨fun _ => ?_, fun _ => ?_⟩)
               | (with_reducible refine And.intro ?_ ?_)
               | (with_reducible intro _)
               | (with_reducible exact is_in _)
               | (simp -implicitDefEqProofs only [SD, SF, SL, e_nf, reduceCtorEq, implies_true, ↓reduceIte, Nat.reduceEqDiff, Nat.reduceAdd, Nat.reduceMul, Nat.reduceSub, Nat.reduceLeDiff, Nat.reduceLT, Int.reduceLT, Int.reduceLE, Int.reduceEq, Int.reduceToNat, Int.reduceAdd, Int.reduceSub, Int.reduceNeg, Int.reduceBEq, Int.reduceBNe, Nat.reduceBEq, Int.cast_ofNat_Int, decide_true, decide_false, ne_eq, eq_self_iff_true, beq_eq_false_iff_ne, bne_iff_ne, List.replicate, encEv, encEnt, zE, encN, evOf_n, evOf_s, isS_n, isS_s, *])))))
        | (with_reducible refine cutD' (D := acD20_1) ?_ ?_ ?_
           rotate_left
           · unfold acD20_1
             iterate 40 (all_goals (try (first
               | ((with_reducible refine of_kSpec ?_); refine call_fz (spec41 (ofL es e.auth) x.kind x.key) rfl ?_)
               | ((with_reducible refine of_kSpec ?_); refine call_fz (spec40 st x.kind x.key) rfl ?_)
               | ((with_reducible refine of_kSpec ?_); refine call_fz (spec17 es _) rfl ?_)
               | (with_reducible refine ite_in (fun _ => ?_) (fun _ => ?_))
               | (with_reducible refine ⟨fun _ => ?_, fun _ => ?_⟩)
               | (with_reducible refine And.intro ?_ ?_)
               | (with_reducible intro _)
               | (with_reducible exact is_in _)
               | (simp -implicitDefEqProofs only [SD, SF, SL, e_nf, reduceCtorEq, implies_true, ↓reduceIte, Nat.reduceEqDiff, Nat.reduceAdd, Nat.reduceMul, Nat.reduceSub, Nat.reduceLeDiff, Nat.reduceLT, Int.reduceLT, Int.reduceLE, Int.reduceEq, Int.reduceToNat, Int.reduceAdd, Int.reduceSub, Int.reduceNeg, Int.reduceBEq, Int.reduceBNe, Nat.reduceBEq, Int.cast_ofNat_Int, decide_true, decide_false, ne_eq, eq_self_iff_true, beq_eq_false_iff_ne, bne_iff_ne, List.replicate, encEv, encEnt, zE, encN, evOf_n, evOf_s, isS_n, isS_s, *])))))
        | (have := hp0; (with_reducible refine back_in rest.length [11, 12, 13, 14, 21, 22, 23, 24, 25, 26, 27, 28, 29, 30, 31, 32, 33, 34, 35, 36, 37, 38, 39, 40, 41, 42, 43, 44, 45, 46, 47, 48, 49, 50, 51, 52, 53, 54, 55, 56, 57, 58, 59, 60, 61, 62, 63, 64, 65, 66, 67, 68] [13, 67] (pre ++ [x], rest, (DV.e0, [])) ?_ ⟨?_, ?_, ?_⟩ ?_)
           · simp
           · exact cut_snoc he.out
           · rfl
           · first | (left; refine ⟨?_, rfl⟩; rw [hsn.out]; exact hp0.out) | (right; rw [hsn.out]; done) | (right; rw [hsn.out, List.map_append]; rfl) | (right; rw [hsn.out, hp0.out]; rfl)
           · first | (simp -implicitDefEqProofs only [SD, SF, SL, e_nf, reduceCtorEq, implies_true, ↓reduceIte, Nat.reduceEqDiff, Nat.reduceAdd, Nat.reduceMul, Nat.reduceSub, Nat.reduceLeDiff, Nat.reduceLT, Int.reduceLT, Int.reduceLE, Int.reduceEq, Int.reduceToNat, Int.reduceAdd, Int.reduceSub, Int.reduceNeg, Int.reduceBEq, Int.reduceBNe, Nat.reduceBEq, Int.cast_ofNat_Int, decide_true, decide_false, ne_eq, eq_self_iff_true, beq_eq_false_iff_ne, bne_iff_ne, List.replicate, encEv, encEnt, zE, encN, evOf_n, evOf_s, isS_n, isS_s] <;> simp <;> done) | (simp -implicitDefEqProofs only [SD, SF, SL, e_nf, reduceCtorEq, implies_true, ↓reduceIte, Nat.reduceEqDiff, Nat.reduceAdd, Nat.reduceMul, Nat.reduceSub, Nat.reduceLeDiff, Nat.reduceLT, Int.reduceLT, Int.reduceLE, Int.reduceEq, Int.reduceToNat, Int.reduceAdd, Int.reduceSub, Int.reduceNeg, Int.reduceBEq, Int.reduceBNe, Nat.reduceBEq, Int.cast_ofNat_Int, decide_true, decide_false, ne_eq, eq_self_iff_true, beq_eq_false_iff_ne, bne_iff_ne, List.replicate, encEv, encEnt, zE, encN, evOf_n, evOf_s, isS_n, isS_s, *] <;> simp_all <;> done))
        | ((with_reducible refine back_in rest.length [11, 12, 13, 14, 21, 22, 23, 24, 25, 26, 27, 28, 29, 30, 31, 32, 33, 34, 35, 36, 37, 38, 39, 40, 41, 42, 43, 44, 45, 46, 47, 48, 49, 50, 51, 52, 53, 54, 55, 56, 57, 58, 59, 60, 61, 62, 63, 64, 65, 66, 67, 68] [13, 67] (pre ++ [x], rest, (DV.ow 68, [(68, Blk.vec 46 29 ((pre.filterMap (pickG getL es st (ofL es e.auth))).map encEv))])) ?_ ⟨?_, ?_, ?_⟩ ?_)
           · simp
           · exact cut_snoc he.out
           · rfl
           · first | (left; refine ⟨?_, rfl⟩; rw [hsn.out]; exact hp0.out) | (right; rw [hsn.out]; done) | (right; rw [hsn.out, List.map_append]; rfl) | (right; rw [hsn.out, hp0.out]; rfl)
           · first | (simp -implicitDefEqProofs only [SD, SF, SL, e_nf, reduceCtorEq, implies_true, ↓reduceIte, Nat.reduceEqDiff, Nat.reduceAdd, Nat.reduceMul, Nat.reduceSub, Nat.reduceLeDiff, Nat.reduceLT, Int.reduceLT, Int.reduceLE, Int.reduceEq, Int.reduceToNat, Int.reduceAdd, Int.reduceSub, Int.reduceNeg, Int.reduceBEq, Int.reduceBNe, Nat.reduceBEq, Int.cast_ofNat_Int, decide_true, decide_false, ne_eq, eq_self_iff_true, beq_eq_false_iff_ne, bne_iff_ne, List.replicate, encEv, encEnt, zE, encN, evOf_n, evOf_s, isS_n, isS_s] <;> simp <;> done) | (simp -implicitDefEqProofs only [SD, SF, SL, e_nf, reduceCtorEq, implies_true, ↓reduceIte, Nat.reduceEqDiff, Nat.reduceAdd, Nat.reduceMul, Nat.reduceSub, Nat.reduceLeDiff, Nat.reduceLT, Int.reduceLT, Int.reduceLE, Int.reduceEq, Int.reduceToNat, Int.reduceAdd, Int.reduceSub, Int.reduceNeg, Int.reduceBEq, Int.reduceBNe, Nat.reduceBEq, Int.cast_ofNat_Int, decide_true, decide_false, ne_eq, eq_self_iff_true, beq_eq_false_iff_ne, bne_iff_ne, List.replicate, encEv, encEnt, zE, encN, evOf_n, evOf_s, isS_n, isS_s, *] <;> simp_all <;> done))
        | ((with_reducible refine back_in rest.length [11, 12, 13, 14, 21, 22, 23, 24, 25, 26, 27, 28, 29, 30, 31, 32, 33, 34, 35, 36, 37, 38, 39, 40, 41, 42, 43, 44, 45, 46, 47, 48, 49, 50, 51, 52, 53, 54, 55, 56, 57, 58, 59, 60, 61, 62, 63, 64, 65, 66, 67, 68] [13, 67] (pre ++ [x], rest, (DV.ow 68, [(68, Blk.vec 46 29 ((pre.filterMap (pickG getL es st (ofL es e.auth))).map encEv ++ [encEv v]))])) ?_ ⟨?_, ?_, ?_⟩ ?_)
           · simp
           · exact cut_snoc he.out
           · rfl
           · first | (left; refine ⟨?_, rfl⟩; rw [hsn.out]; exact hp0.out) | (right; rw [hsn.out]; done) | (right; rw [hsn.out, List.map_append]; rfl) | (right; rw [hsn.out, hp0.out]; rfl)
           · first | (simp -implicitDefEqProofs only [SD, SF, SL, e_nf, reduceCtorEq, implies_true, ↓reduceIte, Nat.reduceEqDiff, Nat.reduceAdd, Nat.reduceMul, Nat.reduceSub, Nat.reduceLeDiff, Nat.reduceLT, Int.reduceLT, Int.reduceLE, Int.reduceEq, Int.reduceToNat, Int.reduceAdd, Int.reduceSub, Int.reduceNeg, Int.reduceBEq, Int.reduceBNe, Nat.reduceBEq, Int.cast_ofNat_Int, decide_true, decide_false, ne_eq, eq_self_iff_true, beq_eq_false_iff_ne, bne_iff_ne, List.replicate, encEv, encEnt, zE, encN, evOf_n, evOf_s, isS_n, isS_s] <;> simp <;> done) | (simp -implicitDefEqProofs only [SD, SF, SL, e_nf, reduceCtorEq, implies_true, ↓reduceIte, Nat.reduceEqDiff, Nat.reduceAdd, Nat.reduceMul, Nat.reduceSub, Nat.reduceLeDiff, Nat.reduceLT, Int.reduceLT, Int.reduceLE, Int.reduceEq, Int.reduceToNat, Int.reduceAdd, Int.reduceSub, Int.reduceNeg, Int.reduceBEq, Int.reduceBNe, Nat.reduceBEq, Int.cast_ofNat_Int, decide_true, decide_false, ne_eq, eq_self_iff_true, beq_eq_false_iff_ne, bne_iff_ne, List.replicate, encEv, encEnt, zE, encN, evOf_n, evOf_s, isS_n, isS_s, *] <;> simp_all <;> done))
        | (have := hp0; (with_reducible refine back_in rest.length [11, 12, 13, 14, 21, 22, 23, 24, 25, 26, 27, 28, 29, 30, 31, 32, 33, 34, 35, 36, 37, 38, 39, 40, 41, 42, 43, 44, 45, 46, 47, 48, 49, 50, 51, 52, 53, 54, 55, 56, 57, 58, 59, 60, 61, 62, 63, 64, 65, 66, 67, 68] [13, 67] (pre ++ [x], rest, (DV.ow 68, [(68, Blk.vec 46 29 ([encEv v]))])) ?_ ⟨?_, ?_, ?_⟩ ?_)
           · simp
           · exact cut_snoc he.out
           · rfl
           · first | (left; refine ⟨?_, rfl⟩; rw [hsn.out]; exact hp0.out) | (right; rw [hsn.out]; done) | (right; rw [hsn.out, List.map_append]; rfl) | (right; rw [hsn.out, hp0.out]; rfl)
           · first | (simp -implicitDefEqProofs only [SD, SF, SL, e_nf, reduceCtorEq, implies_true, ↓reduceIte, Nat.reduceEqDiff, Nat.reduceAdd, Nat.reduceMul, Nat.reduceSub, Nat.reduceLeDiff, Nat.reduceLT, Int.reduceLT, Int.reduceLE, Int.reduceEq, Int.reduceToNat, Int.reduceAdd, Int.reduceSub, Int.reduceNeg, Int.reduceBEq, Int.reduceBNe, Nat.reduceBEq, Int.cast_ofNat_Int, decide_true, decide_false, ne_eq, eq_self_iff_true, beq_eq_false_iff_ne, bne_iff_ne, List.replicate, encEv, encEnt, zE, encN, evOf_n, evOf_s, isS_n, isS_s] <;> simp <;> done) | (simp -implicitDefEqProofs only [SD, SF, SL, e_nf, reduceCtorEq, implies_true, ↓reduceIte, Nat.reduceEqDiff, Nat.reduceAdd, Nat.reduceMul, Nat.reduceSub, Nat.reduceLeDiff, Nat.reduceLT, Int.reduceLT, Int.reduceLE, Int.reduceEq, Int.reduceToNat, Int.reduceAdd, Int.reduceSub, Int.reduceNeg, Int.reduceBEq, Int.reduceBNe, Nat.reduceBEq, Int.cast_ofNat_Int, decide_true, decide_false, ne_eq, eq_self_iff_true, beq_eq_false_iff_ne, bne_iff_ne, List.replicate, encEv, encEnt, zE, encN, evOf_n, evOf_s, isS_n, isS_s, *] <;> simp_all <;> done))
        | ((with_reducible refine of_kSpec ?_); refine call_fz (spec41 (ofL es e.auth) x.kind x.key) rfl ?_)
        | ((with_reducible refine of_kSpec ?_); refine call_fz (spec40 st x.kind x.key) rfl ?_)
        | ((with_reducible refine of_kSpec ?_); refine call_fz (spec17 es _) rfl ?_)
        | (with_reducible refine ite_in (fun _ => ?_) (fun _ => ?_))
        | (with_reducible refine ⟨fun _ => ?_, fun _ => ?_⟩)
        | (with_reducible refine And.intro ?_ ?_)
        | (with_reducible intro _)
        | (with_reducible exact is_in _)
        | (simp -implicitDefEqProofs only [SD, SF, SL, e_nf, reduceCtorEq, implies_true, ↓reduceIte, Nat.reduceEqDiff, Nat.reduceAdd, Nat.reduceMul, Nat.reduceSub, Nat.reduceLeDiff, Nat.reduceLT, Int.reduceLT, Int.reduceLE, Int.reduceEq, Int.reduceToNat, Int.reduceAdd, Int.reduceSub, Int.reduceNeg, Int.reduceBEq, Int.reduceBNe, Nat.reduceBEq, Int.cast_ofNat_Int, decide_true, decide_false, ne_eq, eq_self_iff_true, beq_eq_false_iff_ne, bne_iff_ne, List.replicate, encEv, encEnt, zE, encN, evOf_n, evOf_s, isS_n, isS_s, *]))))
      all_goals (first | decide | (simp only [maxLen, List.length_append, List.length_map, List.length_cons, List.length_nil] <;> omega) | omega | (rw [show baseG getL es st e = (keysE e).filterMap (pickG getL es st (ofL es e.auth)) from rfl, hl0.out]; first | exact .inl rfl | rfl | simp) | exact .inl rfl | (simp_all; done) | trace_state)

end Go.Proofs.YtcolebkklojccaaGreat.E
