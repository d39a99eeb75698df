/-
  FiY: walks of functions of the program at data level.
-/
import Derived.Test.YtamcbdflmephdaaProg
import Derived.Test.YtamcbdflmephdaaEngZ
import Derived.Test.YtamcbdflmephdaaFiR
import Derived.KernelRfl
set_option linter.unusedVariables false
set_option linter.unusedSimpArgs false
namespace Go.Proofs.Ytamcbdflmephdaa.E
open Go
set_option maxHeartbeats 4000000
set_option maxRecDepth 100000
set_option linter.unusedSimpArgs false
set_option linter.unusedVariables false
attribute [local congr] c_wp c_ops c_op c_opS c_run c_runS c_dt c_seq c_blk c_loop c_S c_put c_bind c_mv c_pick c_nt c_ng c_bin c_binI c_binS c_beq c_B c_eqa c_hd c_cells c_blkK c_box c_vec c_mp c_nck c_mks c_appn c_mkm c_mput c_mlk c_mrm c_take c_ld c_ldF c_cellsK c_st c_fld c_fldv c_ix c_ixp c_ixv c_ixs c_sub c_subs c_len c_lens c_src c_dst c_ow c_app c_ext c_mm c_conv c_str c_isn c_fill c_rows c_boxo c_frz c_frzO c_frzA c_frzV c_spec c_specO c_opsP c_opP c_runP c_specP c_Z c_qretP c_fz c_fn c_gv c_cond c_res1 c_resL c_ret c_qret c_ite c_unr c_nx c_bk c_cut c_is
attribute [local irreducible] dwp

theorem rev_end {es l : List Ev} {i m : Nat} (hn : i + m = es.length) (him : m ≤ i + 1) (hl : l.length = es.length) (h : ∀ k, k < es.length → l[k]? = if k < i ∨ m ≤ k then es[es.length - 1 - k]? else es[k]?) : l = es.reverse := by
  refine List.ext_getElem? fun k => ?_
  by_cases hk : k < es.length
  · rw [h k hk, List.getElem?_reverse hk]
    split
    · rfl
    · congr 1
      omega
  · rw [List.getElem?_eq_none (by omega), List.getElem?_eq_none (by simp; omega)]
theorem rev_step {es l : List Ev} {i m : Nat} {x y : Ev} (hn : i + (m + 1) = es.length) (him : i + 1 < m + 1) (hl : l.length = es.length) (h : ∀ k, k < es.length → l[k]? = if k < i ∨ m + 1 ≤ k then es[es.length - 1 - k]? else es[k]?) (hx : l[i]? = some x) (hy : l[m]? = some y) :
    ((l.set i y).set m x).length = es.length ∧ ∀ k, k < es.length → ((l.set i y).set m x)[k]? = if k < i + 1 ∨ m ≤ k then es[es.length - 1 - k]? else es[k]? := by
  refine ⟨by simp [hl], fun k hk => ?_⟩
  have hxi := h i (by omega)
  have hyi := h m (by omega)
  rw [if_neg (by omega), hx] at hxi
  rw [if_neg (by omega), hy] at hyi
  rw [List.getElem?_set, List.getElem?_set, h k hk]
  by_cases h1 : m = k
  · subst h1
    rw [if_pos rfl, if_pos (by simp; omega), if_pos (by omega), show es.length - 1 - m = i by omega]
    exact hxi
  · rw [if_neg h1]
    by_cases h2 : i = k
    · subst h2
      rw [if_pos rfl, if_pos (by omega), if_pos (by omega), show es.length - 1 - i = m by omega]
      exact hyi
    · rw [if_neg h2]
      by_cases h3 : k < i ∨ m + 1 ≤ k
      · rw [if_pos h3, if_pos (by omega)]
      · rw [if_neg h3, if_neg (by omega)]
def ac38 : AC := (.seq (.ops [⟨(some 4), none, (.mv (.t 0))⟩, ⟨(some 5), none, (.len (.t 4))⟩, ⟨(some 6), none, (.bin .sub (.t 5) (.c (.int .i64 1)))⟩, ⟨(some 2), none, (.mv (.c (.int .i64 0)))⟩, ⟨(some 3), none, (.mv (.t 6))⟩]) (.block 0 (.loop (.seq (.seq (.ops [⟨(some 7), none, (.mv (.t 2))⟩, ⟨(some 8), none, (.mv (.t 3))⟩, ⟨(some 9), none, (.bin .lss (.t 7) (.t 8))⟩]) (.cond (.t 9) .skip (.exit 0))) (.seq (.block 1 (.draw (.q false ⟨(some 14), none, (.mv (.t 0))⟩ (.q false ⟨(some 15), none, (.mv (.t 2))⟩ (.q true ⟨(some 16), none, (.mv (.t 0))⟩ (.q true ⟨(some 17), none, (.mv (.t 3))⟩ (.q false ⟨(some 18), none, (.mv (.t 0))⟩ (.q false ⟨(some 19), none, (.mv (.t 3))⟩ (.q false ⟨(some 20), none, (.ix 29 (.t 18) (.t 19))⟩ (.q false ⟨(some 21), none, (.ld true 29 (.t 20))⟩ (.q false ⟨(some 22), none, (.mv (.t 0))⟩ (.q false ⟨(some 23), none, (.mv (.t 2))⟩ (.q false ⟨(some 24), none, (.ix 29 (.t 22) (.t 23))⟩ (.q false ⟨(some 25), none, (.ld true 29 (.t 24))⟩ (.q false ⟨(some 26), none, (.ix 29 (.t 14) (.t 15))⟩ (.op ⟨none, none, (.sto 29 (.t 26) (.t 21))⟩ (.q false ⟨(some 27), none, (.ix 29 (.t 16) (.t 17))⟩ (.op ⟨none, none, (.sto 29 (.t 27) (.t 25))⟩ .nil)))))))))))))))))) (.ops [⟨(some 10), none, (.mv (.t 2))⟩, ⟨(some 11), none, (.bin .add (.t 10) (.c (.int .i64 1)))⟩, ⟨(some 12), none, (.mv (.t 3))⟩, ⟨(some 13), none, (.bin .sub (.t 12) (.c (.int .i64 1)))⟩, ⟨(some 2), none, (.mv (.t 11))⟩, ⟨(some 3), none, (.mv (.t 13))⟩]))))))
theorem tr38 : Try.f38.body.bind (trCode Try.prog) = some (strip ac38) := by kernel_rfl
def nQ (x : DV) (d : Option Blk) (e : AE) (s : DS) : Prop := e = .normal ∧ s.env[0]? = some x ∧ mget s.mem 0 = d
theorem walk38n : dwp Try.prog ac38 ⟨[.e0] ++ List.replicate 27 .any, []⟩ (nQ .e0 none) := by
  unfold ac38
  have hw : IntKind.i64.wrap (-1) = -1 := by decide
  iterate 30 (all_goals (try (first
    | (with_reducible refine loop_u 1 ?_)
    | (with_reducible refine ite_in (fun _ => ?_) (fun _ => ?_))
    | (with_reducible refine ⟨fun _ => ?_, fun _ => ?_⟩)
    | (with_reducible refine And.intro ?_ ?_)
    | (with_reducible intro _)
    | (with_reducible exact is_in _)
    | (simp -implicitDefEqProofs only [SD, SF, SL, e_nf, reduceCtorEq, implies_true, ↓reduceIte, Nat.reduceEqDiff, Nat.reduceAdd, Nat.reduceMul, Nat.reduceSub, Nat.reduceLeDiff, Nat.reduceLT, Int.reduceLT, Int.reduceLE, Int.reduceEq, Int.reduceToNat, Int.reduceAdd, Int.reduceSub, Int.reduceNeg, Int.reduceBEq, Int.reduceBNe, Nat.reduceBEq, Int.cast_ofNat_Int, decide_true, decide_false, ne_eq, eq_self_iff_true, beq_eq_false_iff_ne, bne_iff_ne, List.replicate, nQ, hw, *]))))
  all_goals (first | rfl | (simp_all; done))
theorem walk38 (es : List Ev) (hb : es.length ≤ 1000) : dwp Try.prog ac38 ⟨[.ow 0] ++ List.replicate 27 .any, [(0, .vec 41 29 (es.map encEv))]⟩ (nQ (.ow 0) (some (.vec 41 29 (es.reverse.map encEv)))) := by
  unfold ac38
  have hw0 : IntKind.i64.wrap ((es.length : Int) - 1) = (es.length : Int) - 1 := wrap_in (by omega) (by omega)
  iterate 6 (all_goals (try (first
    | (with_reducible refine ite_in (fun _ => ?_) (fun _ => ?_))
    | (with_reducible refine ⟨fun _ => ?_, fun _ => ?_⟩)
    | (with_reducible refine And.intro ?_ ?_)
    | (with_reducible intro _)
    | (with_reducible exact is_in _)
    | (simp -implicitDefEqProofs only [SD, SF, SL, e_nf, reduceCtorEq, implies_true, ↓reduceIte, Nat.reduceEqDiff, Nat.reduceAdd, Nat.reduceMul, Nat.reduceSub, Nat.reduceLeDiff, Nat.reduceLT, Int.reduceLT, Int.reduceLE, Int.reduceEq, Int.reduceToNat, Int.reduceAdd, Int.reduceSub, Int.reduceNeg, Int.reduceBEq, Int.reduceBNe, Nat.reduceBEq, Int.cast_ofNat_Int, decide_true, decide_false, ne_eq, eq_self_iff_true, beq_eq_false_iff_ne, bne_iff_ne, List.replicate, nQ, List.length_map, *]))))
  refine loop_r (X := Nat × Nat × List Ev) (fun n x => n = es.length - x.1 ∧ x.1 + x.2.1 = es.length ∧ x.1 ≤ x.2.1 ∧ x.2.2.length = es.length ∧ ∀ k, k < es.length → x.2.2[k]? = if k < x.1 ∨ x.2.1 ≤ k then es[es.length - 1 - k]? else es[k]?) (fun x => [(2, .int .i64 x.1), (3, .int .i64 ((x.2.1 : Int) - 1))]) (fun x => [(0, .vec 41 29 (x.2.2.map encEv))]) [7, 8, 9, 10, 11, 12, 13, 14, 15, 16, 17, 18, 19, 20, 21, 22, 23, 24, 25, 26, 27] [0] [] es.length (0, es.length, es) ⟨rfl, by simp, Nat.zero_le _, rfl, fun k hk => by simp; omega⟩ ?_ ?_
  · simp -implicitDefEqProofs only [SD, SF, SL, e_nf, reduceCtorEq, implies_true, ↓reduceIte, Nat.reduceEqDiff, Nat.reduceAdd, Nat.reduceMul, Nat.reduceSub, Nat.reduceLeDiff, Nat.reduceLT, Int.reduceLT, Int.reduceLE, Int.reduceEq, Int.reduceToNat, Int.reduceAdd, Int.reduceSub, Int.reduceNeg, Int.reduceBEq, Int.reduceBNe, Nat.reduceBEq, Int.cast_ofNat_Int, decide_true, decide_false, ne_eq, eq_self_iff_true, beq_eq_false_iff_ne, bne_iff_ne, List.replicate] <;> simp
  · rintro n ⟨i, m, l⟩ ⟨rfl, hn, him, hl, hk⟩
    dsimp only at hn him hl hk
    by_cases hlt : i + 1 < m
    case neg =>
      have hr := rev_end hn (by omega) hl hk
      have hlt' : ¬ ((i : Int) < (m : Int) - 1) := by omega
      clear hk
      iterate 30 (all_goals (try (first
        | (with_reducible refine ite_in (fun _ => ?_) (fun _ => ?_))
        | (with_reducible refine ⟨fun _ => ?_, fun _ => ?_⟩)
        | (with_reducible refine And.intro ?_ ?_)
        | (with_reducible intro _)
        | (with_reducible exact is_in _)
        | (simp -implicitDefEqProofs only [SD, SF, SL, e_nf, reduceCtorEq, implies_true, ↓reduceIte, Nat.reduceEqDiff, Nat.reduceAdd, Nat.reduceMul, Nat.reduceSub, Nat.reduceLeDiff, Nat.reduceLT, Int.reduceLT, Int.reduceLE, Int.reduceEq, Int.reduceToNat, Int.reduceAdd, Int.reduceSub, Int.reduceNeg, Int.reduceBEq, Int.reduceBNe, Nat.reduceBEq, Int.cast_ofNat_Int, decide_true, decide_false, ne_eq, eq_self_iff_true, beq_eq_false_iff_ne, bne_iff_ne, List.replicate, nQ, *]))))
      all_goals (first | rfl | (simp [hr]; done) | (simp_all; done))
    case pos =>
      obtain ⟨m, rfl⟩ : ∃ m', m = m' + 1 := ⟨m - 1, by omega⟩
      have hm1 : (((m + 1 : Nat) : Int) - 1) = (m : Int) := by omega
      rw [hm1]
      obtain ⟨x, hx⟩ : ∃ x, l[i]? = some x := ⟨l[i]'(by omega), List.getElem?_eq_getElem _⟩
      obtain ⟨y, hy⟩ : ∃ y, l[m]? = some y := ⟨l[m]'(by omega), List.getElem?_eq_getElem _⟩
      have hst := rev_step hn hlt hl hk hx hy
      have hgx : (l.map encEv).getD i [] = encEv x := by simp [List.getD, hx]
      have hgy : (l.map encEv).getD m [] = encEv y := by simp [List.getD, hy]
      have hgs : ∀ r, ((l.map encEv).set i r).getD m [] = encEv y := by
        intro r
        have : i ≠ m := by omega
        simp [List.getD, List.getElem?_set_ne this, hy]
      have hsw : ((l.map encEv).set i (encEv y)).set m (encEv x) = ((l.set i y).set m x).map encEv := by simp [List.map_set]
      simp only [encEv] at hgx hgy hgs hsw
      have hlt1 : (i : Int) < (m : Int) := by omega
      have hi1 : (i : Int) < (es.length : Int) := by omega
      have hi2 : (m : Int) < (es.length : Int) := by omega
      have hi3 : i < es.length := by omega
      have hi4 : m < es.length := by omega
      have hw1 : IntKind.i64.wrap ((i : Int) + 1) = (i : Int) + 1 := wrap_in (by omega) (by omega)
      have hw2 : IntKind.i64.wrap ((m : Int) - 1) = (m : Int) - 1 := wrap_in (by omega) (by omega)
      replace hk := Hd.mk hk
      replace hst := Hd.mk hst
      clear hx hy
      iterate 30 (all_goals (try (first
        | ((with_reducible refine back_in (es.length - (i + 1)) [7, 8, 9, 10, 11, 12, 13, 14, 15, 16, 17, 18, 19, 20, 21, 22, 23, 24, 25, 26, 27] [] (i + 1, m, (l.set i y).set m x) ?_ ⟨rfl, ?_, ?_, hst.out.1, hst.out.2⟩ ?_)
           · omega
           · dsimp only; omega
           · dsimp only; omega
           · simp -implicitDefEqProofs only [SD, SF, SL, e_nf, reduceCtorEq, implies_true, ↓reduceIte, Nat.reduceEqDiff, Nat.reduceAdd, Nat.reduceMul, Nat.reduceSub, Nat.reduceLeDiff, Nat.reduceLT, Int.reduceLT, Int.reduceLE, Int.reduceEq, Int.reduceToNat, Int.reduceAdd, Int.reduceSub, Int.reduceNeg, Int.reduceBEq, Int.reduceBNe, Nat.reduceBEq, Int.cast_ofNat_Int, decide_true, decide_false, ne_eq, eq_self_iff_true, beq_eq_false_iff_ne, bne_iff_ne, List.replicate] <;> simp [List.map_set, encEv] <;> done)
        | (with_reducible refine ite_in (fun _ => ?_) (fun _ => ?_))
        | (with_reducible refine ⟨fun _ => ?_, fun _ => ?_⟩)
        | (with_reducible refine And.intro ?_ ?_)
        | (with_reducible intro _)
        | (with_reducible exact is_in _)
        | (simp -implicitDefEqProofs only [SD, SF, SL, e_nf, reduceCtorEq, implies_true, ↓reduceIte, Nat.reduceEqDiff, Nat.reduceAdd, Nat.reduceMul, Nat.reduceSub, Nat.reduceLeDiff, Nat.reduceLT, Int.reduceLT, Int.reduceLE, Int.reduceEq, Int.reduceToNat, Int.reduceAdd, Int.reduceSub, Int.reduceNeg, Int.reduceBEq, Int.reduceBNe, Nat.reduceBEq, Int.cast_ofNat_Int, decide_true, decide_false, ne_eq, eq_self_iff_true, beq_eq_false_iff_ne, bne_iff_ne, List.replicate, nQ, List.length_map, List.length_set, encEv, *]))))
      all_goals (first | omega | (simp_all; done) | (simp_all; omega))

end Go.Proofs.Ytamcbdflmephdaa.E
