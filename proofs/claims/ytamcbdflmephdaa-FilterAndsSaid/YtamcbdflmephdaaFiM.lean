/-
  The contract of the function that makes room behind a nil list.
-/
import Derived.Test.YtamcbdflmephdaaProg
import Derived.Test.YtamcbdflmephdaaEngZ
import Derived.Shelf.RegionOpenPlain
import Derived.WalkKit
import Derived.Lib.Walk
import Derived.Lib.SliceRun
import Derived.Lib.JoinLaws
import Derived.Lib.AppendZeros
import Derived.Lib.AppendZerosOnto
import Derived.Lib.Overlaps
import Derived.Laws.Externs
import Derived.Laws.IdiomCopy
import Derived.Laws.CopyRow
import Derived.KernelRfl
import Derived.Test.YtamcbdflmephdaaFiL
set_option linter.unusedVariables false
set_option linter.unusedSimpArgs false
namespace Go.Proofs.Ytamcbdflmephdaa.E
open Go Go.RowKit Go.Lib
set_option maxHeartbeats 4000000
set_option maxRecDepth 100000
set_option linter.unusedSimpArgs false
set_option linter.unusedVariables false
theorem wpList_appM {P : Program} (w : World) {ops : Array Oper} {rest : List Oper} {o : Oper} {a : Act} {Q : Exit → Act → World → Prop} (hgd : o.guard = none) (d s : Operand) (t t' ty : TypeId) (hty : o.type = ty)
    (ho : o.op = .call { callee := .builtin .append, args := #[d, s], argTypes := #[t, t'] }) (v u : Value) (hd : a.eval d = v) (hs : a.eval s = u) {v' : Value} {w' : World}
    (hr : (Builtin.append_ #[t, t'] ty #[v, u]).run P w = .ok v' w') (h : wpList P ops Q rest (a.put o.dst v') w') : wpList P ops Q (o :: rest) a w := by
  refine wpList_plain hgd fun _ hK => ?_
  unfold Oper.wp execOp
  simp only [ho, hty, resolve, invoke, builtin, Sem.run_bind, Sem.run_pure, Result.andThen_ok, List.map_toArray, List.map_cons, List.map_nil, hd, hs, hr]
  exact hK _ _ h
theorem info_parts {P : Program} {t : TypeId} {z : Option Value} {n m : Nat} (h : (P.info? t).map (fun i => (i.zero, i.size, i.bytes)) = some (z, n, m)) : ∃ i, P.info? t = some i ∧ i.zero = z ∧ i.size = n ∧ i.bytes = m := by
  cases hi : P.info? t with
  | none => rw [hi] at h; cases h
  | some i => rw [hi] at h; simp at h; exact ⟨i, rfl, h.1, h.2.1, h.2.2⟩
theorem grow_run {w : World} {n : Nat} {A : Option Addr} (hn : n ≤ 1000) : Calls Try.prog 51 #[.slice A 0 0, .int .i64 n] w fun e w' => (n = 0 ∧ e = .returned (.slice A 0 0) ∧ w' = w) ∨ ∃ G cur, e = .returned (.slice (some ⟨w.heap.size, 0, none⟩) 0 G) ∧ 0 < G ∧ G ≤ maxLen ∧ cur.size = G ∧ w' = w.drew.alloc (.cells cur 30) := by
  have t3 := Try.underlying3; have a3 := Try.isAgg3; have z3 := Try.sizeOf3; have v3 := Try.zeroValue3
  have t4 := Try.underlying4; have a4 := Try.isAgg4; have z4 := Try.sizeOf4; have v4 := Try.zeroValue4
  have t22 := Try.underlying22; have a22 := Try.isAgg22; have z22 := Try.sizeOf22; have v22 := Try.zeroValue22
  have t30 := Try.underlying30; have a30 := Try.isAgg30; have z30 := Try.sizeOf30; have v30 := Try.zeroValue30
  have u3 := run_underlying Try.underlying3; have u4 := run_underlying Try.underlying4; have u22 := run_underlying Try.underlying22
  have mixed : Try.prog.follows .mixedOrders = true := by kernel_rfl
  obtain ⟨i0, hi0, hz0, hzs, hzb⟩ := info_parts (show (Try.prog.info? 30).map (fun i => (i.zero, i.size, i.bytes)) = some (some (.int .i64 0), 1, 8) by kernel_rfl)
  have hw1 : IntKind.i64.wrap ((n : Int) - 0) = (n : Int) := by rw [IntKind.wrap_i64]; omega
  have hw2 : IntKind.i64.wrap (0 - 0) = 0 := by decide
  have hw3 : IntKind.i64.wrap (n : Int) = (n : Int) := by rw [IntKind.wrap_i64]; omega
  have hn0 : ¬ ((n : Int) < 0) := by omega
  rcases Nat.eq_zero_or_pos n with rfl | hpos
  · cases A
    all_goals go_enter Try.func51, Try.ntmps51
    all_goals go_wp2
    all_goals try go_ret
    all_goals first | exact .inl ⟨rfl, rfl⟩ | exact .inl ⟨rfl, rfl, rfl⟩ | (simp; done)
  · have hp : (0 : Int) < n := by omega
    have hrz : ∀ ty, (Builtin.append_ #[22, 3] ty #[.slice A 0 0, .int .i64 (n : Int)]).run Try.prog w =
        .ok (.slice (some ⟨w.heap.size, 0, none⟩) n (grownCap w n 0 30)) (w.drew.alloc (.cells (#[] ++ Builtin.zeroCells (Value.int .i64 0).cells n ++ Builtin.zeroCells (Value.int .i64 0).cells (grownCap w n 0 30 - n)) 30)) := fun ty => by
      have h := Lib.run_append_grow_zeros w 22 3 ty 30 i0 _ .i64 .i64 Try.underlying22 Try.underlying3 hi0 hz0 A 0 0 [] (by cases A <;> simp [Builtin.firstCells, loadCells, loadCellsFrom]) n hpos (by omega) (by omega) (by omega) (by rw [hzb]; omega) (by rw [hzb, Nat.zero_add]; exact growslice_fits (by omega) (by omega))
      simp only [Nat.zero_add] at h
      exact h
    have hG1 := grownCap_ge w n 0 30
    have hG2 := grownCap_le_maxLen w n 0 30 (by simp only [maxLen]; omega)
    generalize grownCap w n 0 30 = G at *
    cases A
    all_goals go_enter Try.func51, Try.ntmps51
    all_goals go_wp2_with (at_builtin; refine wpList_appM _ rfl _ _ 22 3 22 rfl rfl _ _ rfl rfl (hrz 22) ?_)
    all_goals try go_ret
    all_goals (
      refine .inr ⟨G, rfl, by omega, hG2, _, ?_, rfl⟩
      simp [size_zeroCells]
      omega)
theorem spec51 (n : Nat) (hn : n ≤ 1000) : Spec Try.prog 51 [.fz .e0, .fz (.int .i64 n)] (.own 30 1 []) := by
  refine ⟨by kernel_rfl, fun F w vs hfwf hargs _ => ?_⟩
  obtain ⟨v, r, e, h1, h2⟩ := hargs
  obtain ⟨v2, r2, e2, h3, h4⟩ := h2
  have h4 : r2 = [] := h4
  have h1 : RF F w .e0 v := h1
  have h3 : RF F w (.int .i64 n) v2 := h3
  rw [RF] at h1
  rw [RF] at h3
  obtain ⟨A, rfl⟩ := h1
  subst h3 h4 e2
  obtain rfl : vs = #[.slice A 0 0, .int .i64 n] := by apply Array.ext'; simpa using e
  refine (grow_run hn).mono ?_
  rintro e w' (⟨_, rfl, rfl⟩ | ⟨G, cur, rfl, g1, g2, g3, rfl⟩)
  · exact ⟨_, F, rfl, ⟨fun _ _ h => h, fun _ _ h => .inl h, hfwf, Nat.le_refl _, fun _ _ _ => rfl, rfl, rfl, rfl⟩, by simp, .inl ⟨rfl, A, rfl⟩⟩
  · refine ⟨_, F, rfl, ⟨fun _ _ h => h, fun _ _ h => .inl h, fun b o h => ?_, ?_, fun b hb _ => heap_alloc_old w.drew _ hb, rfl, rfl, rfl⟩, by simp, .inr ⟨w.heap.size, G, cur, rfl, g1, .inl (Nat.le_refl _), fun o ho => Nat.lt_irrefl _ (hfwf _ o ho), heap_alloc_new w.drew _, by simp, g2, by omega, by simp, by simp [All2]⟩⟩
    · have := hfwf b o h
      show b < (w.drew.alloc _).heap.size
      simp
      omega
    · simp
end Go.Proofs.Ytamcbdflmephdaa.E

namespace Go.Proofs.Ytamcbdflmephdaa.E
open Go
set_option maxHeartbeats 4000000
set_option maxRecDepth 100000
set_option linter.unusedSimpArgs false
set_option linter.unusedVariables false
attribute [local congr] c_wp c_ops c_op c_opS c_run c_runS c_dt c_seq c_blk c_loop c_S c_put c_bind c_mv c_pick c_nt c_ng c_bin c_binI c_binS c_beq c_B c_eqa c_hd c_cells c_blkK c_box c_vec c_mp c_nck c_mks c_appn c_mkm c_mput c_mlk c_mrm c_take c_ld c_ldF c_cellsK c_st c_fld c_fldv c_ix c_ixp c_ixv c_ixs c_sub c_subs c_len c_lens c_src c_dst c_ow c_app c_ext c_mm c_conv c_str c_isn c_fill c_rows c_boxo c_frz c_frzO c_frzA c_frzV c_spec c_specO c_opsP c_opP c_runP c_specP c_Z c_qretP c_fz c_fn c_gv c_cond c_res1 c_resL c_ret c_qret c_ite c_unr c_nx c_bk c_cut c_is
attribute [local irreducible] dwp

theorem len_w2 {a b : Nat} (h1 : a ≤ 1000) (h2 : b ≤ 1000) : IntKind.i64.wrap (0 + (a : Int)) = (a : Int) ∧ IntKind.i64.wrap ((a : Int) + b) = ((a + b : Nat) : Int) ∧ ¬ ((a : Int) < 0) ∧ ¬ (((a + b : Nat) : Int) < 0) := by
  refine ⟨?_, ?_, by omega, by omega⟩
  · rw [wrap_in (by omega) (by omega)]
    omega
  · rw [wrap_in (by omega) (by omega)]
    omega
def ac25 : AC := (.seq (.ops [⟨(some 2), none, (.mv (.c .e0))⟩]) (.seq (.ops [⟨(some 3), none, (.mv (.c (.int .i64 0)))⟩]) (.seq (.seq (.ops [⟨(some 9), none, (.mv (.t 0))⟩, ⟨(some 10), none, (.len (.t 9))⟩, ⟨(some 11), none, (.mv (.c (.int .i64 0)))⟩]) (.block 0 (.loop (.seq (.ops [⟨(some 12), none, (.bin .lss (.t 11) (.t 10))⟩]) (.seq (.cond (.t 12) .skip (.exit 0)) (.seq (.block 1 (.seq (.ops [⟨(some 13), none, (.ix 1 (.t 9) (.t 11))⟩, ⟨(some 14), none, (.ld false 1 (.t 13))⟩, ⟨(some 5), none, (.mv (.t 14))⟩]) (.seq (.ops [⟨(some 15), none, (.mv (.t 3))⟩, ⟨(some 16), none, (.mv (.t 5))⟩, ⟨(some 17), none, (.len (.t 16))⟩, ⟨(some 18), none, (.bin .add (.t 15) (.t 17))⟩, ⟨(some 3), none, (.mv (.t 18))⟩]) (.seq (.ops [⟨(some 19), none, (.mv (.t 3))⟩, ⟨(some 20), none, (.bin .lss (.t 19) (.c (.int .i64 0)))⟩]) (.cond (.t 20) .bad .skip))))) (.ops [⟨(some 22), none, (.bin .add (.t 11) (.c (.int .i64 1)))⟩, ⟨(some 11), none, (.mv (.t 22))⟩]))))))) (.seq (.ops [⟨(some 23), none, (.mv (.t 3))⟩, ⟨(some 24), none, (.call false 51 [(.c .e0), (.t 23)])⟩, ⟨(some 6), none, (.mv (.t 24))⟩]) (.seq (.seq (.ops [⟨(some 25), none, (.mv (.t 0))⟩, ⟨(some 26), none, (.len (.t 25))⟩, ⟨(some 27), none, (.mv (.c (.int .i64 0)))⟩]) (.block 2 (.loop (.seq (.ops [⟨(some 28), none, (.bin .lss (.t 27) (.t 26))⟩]) (.seq (.cond (.t 28) .skip (.exit 2)) (.seq (.block 3 (.seq (.ops [⟨(some 29), none, (.ix 1 (.t 25) (.t 27))⟩, ⟨(some 30), none, (.ld false 1 (.t 29))⟩, ⟨(some 8), none, (.mv (.t 30))⟩]) (.ops [⟨(some 31), none, (.mv (.t 6))⟩, ⟨(some 32), none, (.mv (.t 8))⟩, ⟨(some 33), none, (.app 30 1 8 (.t 31) (.t 32))⟩, ⟨(some 6), none, (.mv (.t 33))⟩]))) (.ops [⟨(some 34), none, (.bin .add (.t 27) (.c (.int .i64 1)))⟩, ⟨(some 27), none, (.mv (.t 34))⟩]))))))) (.seq (.ops [⟨(some 35), none, (.mv (.t 6))⟩, ⟨(some 2), none, (.mv (.t 35))⟩]) .ret))))))
theorem tr25 : Try.f25.body.bind (trCode Try.prog) = some (strip ac25) := by kernel_rfl
theorem spec25 (l1 l2 : List Int) (h1 : l1.length ≤ 400) (h2 : l2.length ≤ 400) : Spec Try.prog 25 [.fz (.sl 1 [[.sl 1 (l1.map encN)], [.sl 1 (l2.map encN)]])] (.fz (.sl 1 ((l1 ++ l2).map encN))) := by
  refine spec_at (n := 35) (ars := [(.t 2)]) (ac := ac25) Try.func25 (by kernel_rfl) (by kernel_rfl) tr25 (by kernel_rfl) ?_
  unfold ac25
  obtain ⟨hw1, hw2, hw3, hw4⟩ := len_w2 (a := l1.length) (b := l2.length) (by omega) (by omega)
  have hv1 : IntKind.i64.wrap 1 = 1 := by decide
  have hv2 : IntKind.i64.wrap 2 = 2 := by decide
  have hm1 : l1.length ≤ maxLen := by simp only [maxLen]; omega
  have hm2 : l1.length + l2.length ≤ maxLen := by simp only [maxLen]; omega
  have hm3 : l1.length * 8 ≤ 140737488355328 := by omega
  have hm4 : (l1.length + l2.length) * 8 ≤ 140737488355328 := by omega
  iterate 60 (all_goals (try (first
    | (with_reducible refine loop_u 3 ?_)
    | (with_reducible refine unr_next ?_)
    | ((with_reducible refine of_kSpec ?_); refine call_ow (spec51 (l1.length + l2.length) (by omega)) rfl ?_)
    | (with_reducible refine ite_in (fun _ => ?_) (fun _ => ?_))
    | (with_reducible refine ⟨fun _ => ?_, fun _ => ?_⟩)
    | (with_reducible refine And.intro ?_ ?_)
    | (with_reducible intro _)
    | (with_reducible exact is_in _)
    | (simp -implicitDefEqProofs only [SD, SF, SL, e_nf, reduceCtorEq, implies_true, ↓reduceIte, Nat.reduceEqDiff, Nat.reduceAdd, Nat.reduceMul, Nat.reduceSub, Nat.reduceLeDiff, Nat.reduceLT, Int.reduceLT, Int.reduceLE, Int.reduceEq, Int.reduceToNat, Int.reduceAdd, Int.reduceSub, Int.reduceNeg, Int.reduceBEq, Int.reduceBNe, Nat.reduceBEq, Int.cast_ofNat_Int, decide_true, decide_false, ne_eq, eq_self_iff_true, beq_eq_false_iff_ne, bne_iff_ne, List.replicate, List.length_map, *]))))
  all_goals (first | (simp_all; done) | (simp_all; omega))


end Go.Proofs.Ytamcbdflmephdaa.E
