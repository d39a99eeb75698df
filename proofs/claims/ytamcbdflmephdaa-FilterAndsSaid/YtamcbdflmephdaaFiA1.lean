/-
  FiA1: walks of functions of the program at data level.
-/
import Derived.Test.YtamcbdflmephdaaProg
import Derived.Test.YtamcbdflmephdaaEngZ
import Derived.Test.YtamcbdflmephdaaFiZ
import Derived.Test.YtamcbdflmephdaaFiR
import Derived.KernelRfl
set_option linter.unusedVariables false
set_option linter.unusedSimpArgs false
namespace Go.Proofs.Ytamcbdflmephdaa.E
open Go
set_option maxHeartbeats 4000000
set_option maxRecDepth 100000
set_option linter.unusedSimpArgs false
set_option linter.unusedVariables false
attribute [local congr] c_wp c_ops c_op c_opS c_run c_runS c_dt c_seq c_blk c_loop c_S c_put c_bind c_mv c_pick c_nt c_ng c_bin c_binI c_binS c_beq c_B c_eqa c_hd c_cells c_blkK c_box c_vec c_mp c_nck c_mks c_appn c_mkm c_mput c_mlk c_mrm c_take c_ld c_ldF c_cellsK c_st c_fld c_fldv c_ix c_ixp c_ixv c_ixs c_sub c_subs c_len c_lens c_src c_dst c_ow c_app c_ext c_mm c_conv c_str c_isn c_fill c_rows c_boxo c_frz c_frzO c_frzA c_frzV c_spec c_specO c_opsP c_opP c_runP c_specP c_Z c_qretP c_fz c_fn c_gv c_cond c_res1 c_resL c_ret c_qret c_ite c_unr c_nx c_bk c_cut c_is
attribute [local irreducible] dwp

def ninL (a b : List Int) : List Int := b.filter fun k => decide (¬ k ∈ a)
theorem nin_snoc (a pre : List Int) (x : Int) : ninL a (pre ++ [x]) = if x ∈ a then ninL a pre else ninL a pre ++ [x] := by
  unfold ninL
  rw [List.filter_append]
  by_cases h : x ∈ a <;> simp [h]
theorem nin_len (a pre : List Int) : (ninL a pre).length ≤ pre.length := List.length_filter_le _ _
def minI (a b : Int) : Int := if b < a then b else a
def andL (a b : Flt) : Flt :=
  if (!(bothE a.kinds b.kinds).2 || !(bothE a.senders b.senders).2) = true then ⟨everyL, everyL, (bothE a.senders b.senders).1, minI a.limit b.limit, a.lzy || b.lzy⟩
  else ⟨(bothE a.kinds b.kinds).1, a.nots ++ ninL a.nots b.nots, (bothE a.senders b.senders).1, minI a.limit b.limit, a.lzy || b.lzy⟩
def ac21 : AC := (.seq (.ops [⟨(some 2), none, (.box (.t 0))⟩, ⟨(some 3), none, (.box (.t 1))⟩, ⟨(some 4), none, (.alloc [.e0, .e0, .e0, (.int .i64 0), (.bool false)])⟩]) (.seq (.fz 3 (.fz 2 (.draw (.q false ⟨(some 12), none, (.fld 3 (.t 2))⟩ (.q false ⟨(some 13), none, (.ld false 1 (.t 12))⟩ (.q false ⟨(some 14), none, (.fld 3 (.t 3))⟩ (.q false ⟨(some 15), none, (.ld false 1 (.t 14))⟩ (.q true ⟨(some 17), none, (.fld 4 (.t 2))⟩ (.q true ⟨(some 18), none, (.ld false 1 (.t 17))⟩ (.q true ⟨(some 19), none, (.mv (.t 18))⟩ (.q true ⟨(some 20), (some (19, false)), (.fld 4 (.t 3))⟩ (.q true ⟨(some 21), (some (19, false)), (.ld false 1 (.t 20))⟩ (.q true ⟨(some 22), none, (.pick (.t 19) (.c (.bool true)) (.t 21))⟩ (.q true ⟨(some 23), none, (.fld 1 (.t 2))⟩ (.q true ⟨(some 24), none, (.ld false 1 (.t 23))⟩ (.alt (.op ⟨(some 16), none, (.mm false (.t 13) (.t 15))⟩ (.alt (.op ⟨(some 25), none, (.call false 41 [(.t 24)])⟩ (.alt (.op ⟨(some 26), none, (.build [.e0, .e0, .e0, (.int .i64 0), (.bool false)] [(3, (1, (.t 16))), (4, (1, (.t 22))), (1, (1, (.t 25)))])⟩ (.op ⟨(some 5), none, (.alloc [.e0, .e0, .e0, (.int .i64 0), (.bool false)])⟩ (.op ⟨none, none, (.sto 5 (.t 5) (.t 26))⟩ .nil))) (.op ⟨(some 5), none, (.alloc [.e0, .e0, .e0, (.int .i64 0), (.bool false)])⟩ (.op ⟨(some 26), none, (.build [.e0, .e0, .e0, (.int .i64 0), (.bool false)] [(3, (1, (.t 16))), (4, (1, (.t 22))), (1, (1, (.t 25)))])⟩ (.op ⟨none, none, (.sto 5 (.t 5) (.t 26))⟩ .nil))))) (.op ⟨(some 5), none, (.alloc [.e0, .e0, .e0, (.int .i64 0), (.bool false)])⟩ (.op ⟨(some 25), none, (.call false 41 [(.t 24)])⟩ (.op ⟨(some 26), none, (.build [.e0, .e0, .e0, (.int .i64 0), (.bool false)] [(3, (1, (.t 16))), (4, (1, (.t 22))), (1, (1, (.t 25)))])⟩ (.op ⟨none, none, (.sto 5 (.t 5) (.t 26))⟩ .nil)))))) (.alt (.op ⟨(some 25), none, (.call false 41 [(.t 24)])⟩ (.alt (.op ⟨(some 16), none, (.mm false (.t 13) (.t 15))⟩ (.alt (.op ⟨(some 26), none, (.build [.e0, .e0, .e0, (.int .i64 0), (.bool false)] [(3, (1, (.t 16))), (4, (1, (.t 22))), (1, (1, (.t 25)))])⟩ (.op ⟨(some 5), none, (.alloc [.e0, .e0, .e0, (.int .i64 0), (.bool false)])⟩ (.op ⟨none, none, (.sto 5 (.t 5) (.t 26))⟩ .nil))) (.op ⟨(some 5), none, (.alloc [.e0, .e0, .e0, (.int .i64 0), (.bool false)])⟩ (.op ⟨(some 26), none, (.build [.e0, .e0, .e0, (.int .i64 0), (.bool false)] [(3, (1, (.t 16))), (4, (1, (.t 22))), (1, (1, (.t 25)))])⟩ (.op ⟨none, none, (.sto 5 (.t 5) (.t 26))⟩ .nil))))) (.op ⟨(some 5), none, (.alloc [.e0, .e0, .e0, (.int .i64 0), (.bool false)])⟩ (.op ⟨(some 16), none, (.mm false (.t 13) (.t 15))⟩ (.op ⟨(some 26), none, (.build [.e0, .e0, .e0, (.int .i64 0), (.bool false)] [(3, (1, (.t 16))), (4, (1, (.t 22))), (1, (1, (.t 25)))])⟩ (.op ⟨none, none, (.sto 5 (.t 5) (.t 26))⟩ .nil)))))) (.op ⟨(some 5), none, (.alloc [.e0, .e0, .e0, (.int .i64 0), (.bool false)])⟩ (.alt (.op ⟨(some 16), none, (.mm false (.t 13) (.t 15))⟩ (.op ⟨(some 25), none, (.call false 41 [(.t 24)])⟩ (.op ⟨(some 26), none, (.build [.e0, .e0, .e0, (.int .i64 0), (.bool false)] [(3, (1, (.t 16))), (4, (1, (.t 22))), (1, (1, (.t 25)))])⟩ (.op ⟨none, none, (.sto 5 (.t 5) (.t 26))⟩ .nil)))) (.op ⟨(some 25), none, (.call false 41 [(.t 24)])⟩ (.op ⟨(some 16), none, (.mm false (.t 13) (.t 15))⟩ (.op ⟨(some 26), none, (.build [.e0, .e0, .e0, (.int .i64 0), (.bool false)] [(3, (1, (.t 16))), (4, (1, (.t 22))), (1, (1, (.t 25)))])⟩ (.op ⟨none, none, (.sto 5 (.t 5) (.t 26))⟩ .nil))))))))))))))))))))))) (.seq (.seq (.ops [⟨(some 27), none, (.fld 1 (.t 3))⟩, ⟨(some 28), none, (.ld false 1 (.t 27))⟩, ⟨(some 29), none, (.len (.t 28))⟩, ⟨(some 30), none, (.mv (.c (.int .i64 0)))⟩]) (.block 0 (.loop (.seq (.ops [⟨(some 31), none, (.bin .lss (.t 30) (.t 29))⟩]) (.seq (.cond (.t 31) .skip (.exit 0)) (.seq (.block 1 (.seq (.ops [⟨(some 32), none, (.ix 1 (.t 28) (.t 30))⟩, ⟨(some 33), none, (.ld false 1 (.t 32))⟩, ⟨(some 7), none, (.mv (.t 33))⟩]) (.seq (.ops [⟨(some 34), none, (.fld 1 (.t 2))⟩, ⟨(some 35), none, (.ld false 1 (.t 34))⟩, ⟨(some 36), none, (.mv (.t 7))⟩, ⟨(some 37), none, (.call false 34 [(.t 35), (.t 36)])⟩, ⟨(some 38), none, (.nt (.t 37))⟩]) (.cond (.t 38) (.ops [⟨(some 39), none, (.fld 1 (.t 5))⟩, ⟨(some 40), none, (.ld false 1 (.t 39))⟩, ⟨(some 41), none, (.mv (.t 7))⟩, ⟨(some 42), none, (.buildSl 30 1 1 [(.int .i64 0)] [(0, (.t 41))])⟩, ⟨(some 43), none, (.app 30 1 8 (.t 40) (.t 42))⟩, ⟨(some 44), none, (.fld 1 (.t 5))⟩, ⟨none, none, (.sto 1 (.t 44) (.t 43))⟩]) .skip)))) (.ops [⟨(some 45), none, (.bin .add (.t 30) (.c (.int .i64 1)))⟩, ⟨(some 30), none, (.mv (.t 45))⟩]))))))) (.seq (.ops [⟨(some 47), none, (.fld 0 (.t 2))⟩, ⟨(some 48), none, (.ld false 1 (.t 47))⟩, ⟨(some 49), none, (.fld 0 (.t 3))⟩, ⟨(some 50), none, (.ld false 1 (.t 49))⟩, ⟨(some 51), none, (.call false 42 [(.t 48), (.t 50)])⟩, ⟨(some 46), none, (.mv (.t 51))⟩, ⟨(some 52), none, (.ext (.t 46) 0)⟩, ⟨(some 53), none, (.ext (.t 46) 1)⟩, ⟨(some 8), none, (.mv (.t 52))⟩, ⟨(some 9), none, (.mv (.t 53))⟩]) (.seq (.ops [⟨(some 55), none, (.fld 2 (.t 2))⟩, ⟨(some 56), none, (.ld false 1 (.t 55))⟩, ⟨(some 57), none, (.fld 2 (.t 3))⟩, ⟨(some 58), none, (.ld false 1 (.t 57))⟩, ⟨(some 59), none, (.call false 43 [(.t 56), (.t 58)])⟩, ⟨(some 54), none, (.mv (.t 59))⟩, ⟨(some 60), none, (.ext (.t 54) 0)⟩, ⟨(some 61), none, (.ext (.t 54) 1)⟩, ⟨(some 10), none, (.mv (.t 60))⟩, ⟨(some 11), none, (.mv (.t 61))⟩]) (.seq (.ops [⟨(some 62), none, (.mv (.t 8))⟩, ⟨(some 63), none, (.mv (.t 10))⟩, ⟨(some 64), none, (.fld 0 (.t 5))⟩, ⟨none, none, (.sto 1 (.t 64) (.t 62))⟩, ⟨(some 65), none, (.fld 2 (.t 5))⟩, ⟨none, none, (.sto 1 (.t 65) (.t 63))⟩]) (.seq (.seq (.ops [⟨(some 66), none, (.mv (.t 9))⟩, ⟨(some 67), none, (.nt (.t 66))⟩, ⟨(some 68), none, (.mv (.t 67))⟩, ⟨(some 69), (some (68, false)), (.mv (.t 11))⟩, ⟨(some 70), (some (68, false)), (.nt (.t 69))⟩, ⟨(some 71), none, (.pick (.t 68) (.c (.bool true)) (.t 70))⟩]) (.cond (.t 71) (.ops [⟨(some 72), none, (.call false 44 [])⟩, ⟨(some 73), none, (.call false 44 [])⟩, ⟨(some 74), none, (.fld 0 (.t 5))⟩, ⟨none, none, (.sto 1 (.t 74) (.t 72))⟩, ⟨(some 75), none, (.fld 1 (.t 5))⟩, ⟨none, none, (.sto 1 (.t 75) (.t 73))⟩]) .skip)) (.seq (.ops [⟨(some 76), none, (.ld true 5 (.t 5))⟩, ⟨none, none, (.sto 5 (.t 4) (.t 76))⟩]) .ret))))))))
theorem tr21 : Try.f21.body.bind (trCode Try.prog) = some (strip ac21) := by kernel_rfl
theorem spec21 (p q : Flt) (h1 : p.kinds.length ≤ 400) (h2 : p.nots.length ≤ 400) (h3 : p.senders.length ≤ 400) (g1 : q.kinds.length ≤ 400) (g2 : q.nots.length ≤ 400) (g3 : q.senders.length ≤ 400) : Spec Try.prog 21 [.fz (.agg (encFl p)), .fz (.agg (encFl q))] (.fz (.agg (encFl (andL p q)))) := by
  refine spec_at (n := 75) (ars := [(.c true 5 4)]) (ac := ac21) Try.func21 (by kernel_rfl) (by kernel_rfl) tr21 (by kernel_rfl) ?_
  unfold ac21
  rcases hz : p.lzy with _ | _
  case false =>
    refine seq_is ?S1false ?h1_1false ?h2_1false
    case h1_1false =>
        iterate 4 (all_goals (try (first
          | (with_reducible refine ite_in (fun _ => ?_) (fun _ => ?_))
          | (with_reducible refine ⟨fun _ => ?_, fun _ => ?_⟩)
          | (with_reducible refine And.intro ?_ ?_)
          | (with_reducible intro _)
          | (with_reducible exact is_in _)
          | (simp -implicitDefEqProofs only [SD, SF, SL, e_nf, reduceCtorEq, implies_true, ↓reduceIte, Nat.reduceEqDiff, Nat.reduceAdd, Nat.reduceMul, Nat.reduceSub, Nat.reduceLeDiff, Nat.reduceLT, Int.reduceLT, Int.reduceLE, Int.reduceEq, Int.reduceToNat, Int.reduceAdd, Int.reduceSub, Int.reduceNeg, Int.reduceBEq, Int.reduceBNe, Nat.reduceBEq, Int.cast_ofNat_Int, decide_true, decide_false, ne_eq, eq_self_iff_true, beq_eq_false_iff_ne, bne_iff_ne, List.replicate, encFl, *]))))
    refine seq_is ?S2false ?h1_2false ?h2_2false
    case h1_2false =>
        iterate 40 (all_goals (try (first
          | ((with_reducible refine of_kSpec ?_); refine call_ow (spec41 p.nots (by omega)) rfl ?_)
          | (with_reducible refine ite_in (fun _ => ?_) (fun _ => ?_))
          | (with_reducible refine ⟨fun _ => ?_, fun _ => ?_⟩)
          | (with_reducible refine And.intro ?_ ?_)
          | (with_reducible intro _)
          | (with_reducible exact is_in _)
          | (simp -implicitDefEqProofs only [SD, SF, SL, e_nf, reduceCtorEq, implies_true, ↓reduceIte, Nat.reduceEqDiff, Nat.reduceAdd, Nat.reduceMul, Nat.reduceSub, Nat.reduceLeDiff, Nat.reduceLT, Int.reduceLT, Int.reduceLE, Int.reduceEq, Int.reduceToNat, Int.reduceAdd, Int.reduceSub, Int.reduceNeg, Int.reduceBEq, Int.reduceBNe, Nat.reduceBEq, Int.cast_ofNat_Int, decide_true, decide_false, ne_eq, eq_self_iff_true, beq_eq_false_iff_ne, bne_iff_ne, List.replicate, encFl, *]))))
    iterate 5 (all_goals (try (first
      | (with_reducible refine ite_in (fun _ => ?_) (fun _ => ?_))
      | (with_reducible refine ⟨fun _ => ?_, fun _ => ?_⟩)
      | (with_reducible refine And.intro ?_ ?_)
      | (with_reducible intro _)
      | (with_reducible exact is_in _)
      | (simp -implicitDefEqProofs only [SD, SF, SL, e_nf, reduceCtorEq, implies_true, ↓reduceIte, Nat.reduceEqDiff, Nat.reduceAdd, Nat.reduceMul, Nat.reduceSub, Nat.reduceLeDiff, Nat.reduceLT, Int.reduceLT, Int.reduceLE, Int.reduceEq, Int.reduceToNat, Int.reduceAdd, Int.reduceSub, Int.reduceNeg, Int.reduceBEq, Int.reduceBNe, Nat.reduceBEq, Int.cast_ofNat_Int, decide_true, decide_false, ne_eq, eq_self_iff_true, beq_eq_false_iff_ne, bne_iff_ne, List.replicate, encFl, *]))))
    refine loop_r (X := List Int × List Int × (DV × List (Nat × Blk))) (fun n x => q.nots = x.1 ++ x.2.1 ∧ n = x.2.1.length ∧ ((ninL p.nots x.1 = [] ∧ x.2.2 = (DV.ow 25, [(25, Blk.vec 30 1 (p.nots.map encN))])) ∨ x.2.2 = (DV.ow 43, [(43, Blk.vec 30 1 ((p.nots ++ ninL p.nots x.1).map encN))]))) (fun x => [(30, .int .i64 x.1.length)]) (fun x => [(5, Blk.box [.e0, x.2.2.1, .e0, .int .i64 (if q.limit < p.limit then q.limit else p.limit), .bool q.lzy])] ++ x.2.2.2) [7, 31, 32, 33, 34, 35, 36, 37, 38, 39, 40, 41, 42, 43, 44, 45] [5, 25, 42, 43] [42] (q.nots).length ([], q.nots, (DV.ow 25, [(25, Blk.vec 30 1 (p.nots.map encN))])) ⟨rfl, rfl, by exact .inl ⟨rfl, rfl⟩⟩ ?_ ?_
    · simp -implicitDefEqProofs only [SD, SF, SL, e_nf, reduceCtorEq, implies_true, ↓reduceIte, Nat.reduceEqDiff, Nat.reduceAdd, Nat.reduceMul, Nat.reduceSub, Nat.reduceLeDiff, Nat.reduceLT, Int.reduceLT, Int.reduceLE, Int.reduceEq, Int.reduceToNat, Int.reduceAdd, Int.reduceSub, Int.reduceNeg, Int.reduceBEq, Int.reduceBNe, Nat.reduceBEq, Int.cast_ofNat_Int, decide_true, decide_false, ne_eq, eq_self_iff_true, beq_eq_false_iff_ne, bne_iff_ne, List.replicate, encFl, encN] <;> simp
    · rintro n ⟨pre, rest, a⟩ ⟨he, rfl, hI⟩
      dsimp only at he hI
      cases rest with
      | nil =>
        obtain rfl : q.nots = pre := by simpa using he
        clear he
        have hlt : ¬ (((q.nots).length : Int) < ((q.nots).length : Int)) := Int.lt_irrefl _
        rcases hI with ⟨hl0, rfl⟩ | rfl
        all_goals try replace hl0 := Hd.mk hl0
        all_goals have hand : andL p q = (if (!(bothE p.kinds q.kinds).2 || !(bothE p.senders q.senders).2) = true then ⟨everyL, everyL, (bothE p.senders q.senders).1, minI p.limit q.limit, p.lzy || q.lzy⟩ else ⟨(bothE p.kinds q.kinds).1, p.nots ++ ninL p.nots q.nots, (bothE p.senders q.senders).1, minI p.limit q.limit, p.lzy || q.lzy⟩) := rfl
        all_goals by_cases hk : (bothE p.kinds q.kinds).2 = true
        all_goals by_cases hs : (bothE p.senders q.senders).2 = true
        all_goals try (replace hk : (bothE p.kinds q.kinds).2 = false := by simpa using hk)
        all_goals try (replace hs : (bothE p.senders q.senders).2 = false := by simpa using hs)
        all_goals rw [hk, hs] at hand
        all_goals simp only [Bool.not_true, Bool.not_false, Bool.or_true, Bool.or_false, Bool.true_or, Bool.false_or, Bool.false_eq_true, if_true, if_false, ↓reduceIte, hz, minI] at hand
        all_goals try (rw [hl0.out, List.append_nil] at hand)
        iterate 40 (all_goals (try (first
          | ((with_reducible refine of_kSpec ?_); refine call_fz (spec34 p.nots x) rfl ?_)
          | ((with_reducible refine of_kSpec ?_); refine call_fz (spec42 p.kinds q.kinds h1 g1) rfl ?_)
          | ((with_reducible refine of_kSpec ?_); refine call_fz (spec43 p.senders q.senders h3 g3) rfl ?_)
          | ((with_reducible refine of_kSpec ?_); refine call_fz (spec44) rfl ?_)
          | (with_reducible refine ite_in (fun _ => ?_) (fun _ => ?_))
          | (with_reducible refine ⟨fun _ => ?_, fun _ => ?_⟩)
          | (with_reducible refine And.intro ?_ ?_)
          | (with_reducible intro _)
          | (with_reducible exact is_in _)
          | (simp -implicitDefEqProofs only [SD, SF, SL, e_nf, reduceCtorEq, implies_true, ↓reduceIte, Nat.reduceEqDiff, Nat.reduceAdd, Nat.reduceMul, Nat.reduceSub, Nat.reduceLeDiff, Nat.reduceLT, Int.reduceLT, Int.reduceLE, Int.reduceEq, Int.reduceToNat, Int.reduceAdd, Int.reduceSub, Int.reduceNeg, Int.reduceBEq, Int.reduceBNe, Nat.reduceBEq, Int.cast_ofNat_Int, decide_true, decide_false, ne_eq, eq_self_iff_true, beq_eq_false_iff_ne, bne_iff_ne, List.replicate, encFl, encN, *]))))
        all_goals (skip)

      | cons x rest =>
        have hlt := cut_lt he
        have hx := cutD encN he
        simp only [encN] at hx
        have hw := wrap_len (n := pre.length) (m := (q.nots).length) (cut_lt' he) (by simp only [maxLen]; omega)
        replace he := Hd.mk he
        have hz1 := cut_lt' he.out
        have hlo := nin_len p.nots pre
        have hz2 : p.nots.length + (ninL p.nots pre).length + 1 ≤ maxLen := by simp only [maxLen]; omega
        have hz3 : (p.nots.length + (ninL p.nots pre).length + 1) * 8 ≤ 140737488355328 := by omega
        have hsn := nin_snoc p.nots pre x
        rcases hI with ⟨hp0, rfl⟩ | rfl
        all_goals try replace hp0 := Hd.mk hp0
        all_goals by_cases hw1 : x ∈ p.nots
        iterate 40 (all_goals (try (first
          | ((with_reducible refine back_in rest.length [7, 31, 32, 33, 34, 35, 36, 37, 38, 39, 40, 41, 42, 43, 44, 45] [42] (pre ++ [x], rest, (DV.ow 25, [(25, Blk.vec 30 1 (p.nots.map encN))])) ?_ ⟨?_, ?_, ?_⟩ ?_)
             · simp
             · exact cut_snoc he.out
             · rfl
             · first | (left; refine ⟨?_, rfl⟩; rw [hsn, if_pos hw1]; exact hp0.out) | (right; rw [hsn, if_pos hw1]) | (right; rw [hsn, if_neg hw1, hp0.out]; simp; done) | (right; rw [hsn, if_neg hw1]; simp; done)
             · first | (simp -implicitDefEqProofs only [SD, SF, SL, e_nf, reduceCtorEq, implies_true, ↓reduceIte, Nat.reduceEqDiff, Nat.reduceAdd, Nat.reduceMul, Nat.reduceSub, Nat.reduceLeDiff, Nat.reduceLT, Int.reduceLT, Int.reduceLE, Int.reduceEq, Int.reduceToNat, Int.reduceAdd, Int.reduceSub, Int.reduceNeg, Int.reduceBEq, Int.reduceBNe, Nat.reduceBEq, Int.cast_ofNat_Int, decide_true, decide_false, ne_eq, eq_self_iff_true, beq_eq_false_iff_ne, bne_iff_ne, List.replicate, encFl, encN] <;> simp <;> done) | (simp -implicitDefEqProofs only [SD, SF, SL, e_nf, reduceCtorEq, implies_true, ↓reduceIte, Nat.reduceEqDiff, Nat.reduceAdd, Nat.reduceMul, Nat.reduceSub, Nat.reduceLeDiff, Nat.reduceLT, Int.reduceLT, Int.reduceLE, Int.reduceEq, Int.reduceToNat, Int.reduceAdd, Int.reduceSub, Int.reduceNeg, Int.reduceBEq, Int.reduceBNe, Nat.reduceBEq, Int.cast_ofNat_Int, decide_true, decide_false, ne_eq, eq_self_iff_true, beq_eq_false_iff_ne, bne_iff_ne, List.replicate, encFl, encN, *] <;> simp_all <;> done))
          | ((with_reducible refine back_in rest.length [7, 31, 32, 33, 34, 35, 36, 37, 38, 39, 40, 41, 42, 43, 44, 45] [42] (pre ++ [x], rest, (DV.ow 43, [(43, Blk.vec 30 1 ((p.nots ++ ninL p.nots pre).map encN))])) ?_ ⟨?_, ?_, ?_⟩ ?_)
             · simp
             · exact cut_snoc he.out
             · rfl
             · first | (left; refine ⟨?_, rfl⟩; rw [hsn, if_pos hw1]; exact hp0.out) | (right; rw [hsn, if_pos hw1]) | (right; rw [hsn, if_neg hw1, hp0.out]; simp; done) | (right; rw [hsn, if_neg hw1]; simp; done)
             · first | (simp -implicitDefEqProofs only [SD, SF, SL, e_nf, reduceCtorEq, implies_true, ↓reduceIte, Nat.reduceEqDiff, Nat.reduceAdd, Nat.reduceMul, Nat.reduceSub, Nat.reduceLeDiff, Nat.reduceLT, Int.reduceLT, Int.reduceLE, Int.reduceEq, Int.reduceToNat, Int.reduceAdd, Int.reduceSub, Int.reduceNeg, Int.reduceBEq, Int.reduceBNe, Nat.reduceBEq, Int.cast_ofNat_Int, decide_true, decide_false, ne_eq, eq_self_iff_true, beq_eq_false_iff_ne, bne_iff_ne, List.replicate, encFl, encN] <;> simp <;> done) | (simp -implicitDefEqProofs only [SD, SF, SL, e_nf, reduceCtorEq, implies_true, ↓reduceIte, Nat.reduceEqDiff, Nat.reduceAdd, Nat.reduceMul, Nat.reduceSub, Nat.reduceLeDiff, Nat.reduceLT, Int.reduceLT, Int.reduceLE, Int.reduceEq, Int.reduceToNat, Int.reduceAdd, Int.reduceSub, Int.reduceNeg, Int.reduceBEq, Int.reduceBNe, Nat.reduceBEq, Int.cast_ofNat_Int, decide_true, decide_false, ne_eq, eq_self_iff_true, beq_eq_false_iff_ne, bne_iff_ne, List.replicate, encFl, encN, *] <;> simp_all <;> done))
          | ((with_reducible refine back_in rest.length [7, 31, 32, 33, 34, 35, 36, 37, 38, 39, 40, 41, 42, 43, 44, 45] [42] (pre ++ [x], rest, (DV.ow 43, [(43, Blk.vec 30 1 ((p.nots ++ ninL p.nots pre).map encN ++ [encN x]))])) ?_ ⟨?_, ?_, ?_⟩ ?_)
             · simp
             · exact cut_snoc he.out
             · rfl
             · first | (left; refine ⟨?_, rfl⟩; rw [hsn, if_pos hw1]; exact hp0.out) | (right; rw [hsn, if_pos hw1]) | (right; rw [hsn, if_neg hw1, hp0.out]; simp; done) | (right; rw [hsn, if_neg hw1]; simp; done)
             · first | (simp -implicitDefEqProofs only [SD, SF, SL, e_nf, reduceCtorEq, implies_true, ↓reduceIte, Nat.reduceEqDiff, Nat.reduceAdd, Nat.reduceMul, Nat.reduceSub, Nat.reduceLeDiff, Nat.reduceLT, Int.reduceLT, Int.reduceLE, Int.reduceEq, Int.reduceToNat, Int.reduceAdd, Int.reduceSub, Int.reduceNeg, Int.reduceBEq, Int.reduceBNe, Nat.reduceBEq, Int.cast_ofNat_Int, decide_true, decide_false, ne_eq, eq_self_iff_true, beq_eq_false_iff_ne, bne_iff_ne, List.replicate, encFl, encN] <;> simp <;> done) | (simp -implicitDefEqProofs only [SD, SF, SL, e_nf, reduceCtorEq, implies_true, ↓reduceIte, Nat.reduceEqDiff, Nat.reduceAdd, Nat.reduceMul, Nat.reduceSub, Nat.reduceLeDiff, Nat.reduceLT, Int.reduceLT, Int.reduceLE, Int.reduceEq, Int.reduceToNat, Int.reduceAdd, Int.reduceSub, Int.reduceNeg, Int.reduceBEq, Int.reduceBNe, Nat.reduceBEq, Int.cast_ofNat_Int, decide_true, decide_false, ne_eq, eq_self_iff_true, beq_eq_false_iff_ne, bne_iff_ne, List.replicate, encFl, encN, *] <;> simp_all <;> done))
          | ((with_reducible refine back_in rest.length [7, 31, 32, 33, 34, 35, 36, 37, 38, 39, 40, 41, 42, 43, 44, 45] [42] (pre ++ [x], rest, (DV.ow 43, [(43, Blk.vec 30 1 (p.nots.map encN ++ [encN x]))])) ?_ ⟨?_, ?_, ?_⟩ ?_)
             · simp
             · exact cut_snoc he.out
             · rfl
             · first | (left; refine ⟨?_, rfl⟩; rw [hsn, if_pos hw1]; exact hp0.out) | (right; rw [hsn, if_pos hw1]) | (right; rw [hsn, if_neg hw1, hp0.out]; simp; done) | (right; rw [hsn, if_neg hw1]; simp; done)
             · first | (simp -implicitDefEqProofs only [SD, SF, SL, e_nf, reduceCtorEq, implies_true, ↓reduceIte, Nat.reduceEqDiff, Nat.reduceAdd, Nat.reduceMul, Nat.reduceSub, Nat.reduceLeDiff, Nat.reduceLT, Int.reduceLT, Int.reduceLE, Int.reduceEq, Int.reduceToNat, Int.reduceAdd, Int.reduceSub, Int.reduceNeg, Int.reduceBEq, Int.reduceBNe, Nat.reduceBEq, Int.cast_ofNat_Int, decide_true, decide_false, ne_eq, eq_self_iff_true, beq_eq_false_iff_ne, bne_iff_ne, List.replicate, encFl, encN] <;> simp <;> done) | (simp -implicitDefEqProofs only [SD, SF, SL, e_nf, reduceCtorEq, implies_true, ↓reduceIte, Nat.reduceEqDiff, Nat.reduceAdd, Nat.reduceMul, Nat.reduceSub, Nat.reduceLeDiff, Nat.reduceLT, Int.reduceLT, Int.reduceLE, Int.reduceEq, Int.reduceToNat, Int.reduceAdd, Int.reduceSub, Int.reduceNeg, Int.reduceBEq, Int.reduceBNe, Nat.reduceBEq, Int.cast_ofNat_Int, decide_true, decide_false, ne_eq, eq_self_iff_true, beq_eq_false_iff_ne, bne_iff_ne, List.replicate, encFl, encN, *] <;> simp_all <;> done))
          | ((with_reducible refine of_kSpec ?_); refine call_fz (spec34 p.nots x) rfl ?_)
          | ((with_reducible refine of_kSpec ?_); refine call_fz (spec42 p.kinds q.kinds h1 g1) rfl ?_)
          | ((with_reducible refine of_kSpec ?_); refine call_fz (spec43 p.senders q.senders h3 g3) rfl ?_)
          | ((with_reducible refine of_kSpec ?_); refine call_fz (spec44) rfl ?_)
          | (with_reducible refine ite_in (fun _ => ?_) (fun _ => ?_))
          | (with_reducible refine ⟨fun _ => ?_, fun _ => ?_⟩)
          | (with_reducible refine And.intro ?_ ?_)
          | (with_reducible intro _)
          | (with_reducible exact is_in _)
          | (simp -implicitDefEqProofs only [SD, SF, SL, e_nf, reduceCtorEq, implies_true, ↓reduceIte, Nat.reduceEqDiff, Nat.reduceAdd, Nat.reduceMul, Nat.reduceSub, Nat.reduceLeDiff, Nat.reduceLT, Int.reduceLT, Int.reduceLE, Int.reduceEq, Int.reduceToNat, Int.reduceAdd, Int.reduceSub, Int.reduceNeg, Int.reduceBEq, Int.reduceBNe, Nat.reduceBEq, Int.cast_ofNat_Int, decide_true, decide_false, ne_eq, eq_self_iff_true, beq_eq_false_iff_ne, bne_iff_ne, List.replicate, encFl, encN, *]))))
        all_goals (first | omega | (simp only [maxLen, List.length_append, List.length_map, List.length_cons, List.length_nil] <;> omega) | (simp_all; done))
  case true =>
    refine seq_is ?S1true ?h1_1true ?h2_1true
    case h1_1true =>
        iterate 4 (all_goals (try (first
          | (with_reducible refine ite_in (fun _ => ?_) (fun _ => ?_))
          | (with_reducible refine ⟨fun _ => ?_, fun _ => ?_⟩)
          | (with_reducible refine And.intro ?_ ?_)
          | (with_reducible intro _)
          | (with_reducible exact is_in _)
          | (simp -implicitDefEqProofs only [SD, SF, SL, e_nf, reduceCtorEq, implies_true, ↓reduceIte, Nat.reduceEqDiff, Nat.reduceAdd, Nat.reduceMul, Nat.reduceSub, Nat.reduceLeDiff, Nat.reduceLT, Int.reduceLT, Int.reduceLE, Int.reduceEq, Int.reduceToNat, Int.reduceAdd, Int.reduceSub, Int.reduceNeg, Int.reduceBEq, Int.reduceBNe, Nat.reduceBEq, Int.cast_ofNat_Int, decide_true, decide_false, ne_eq, eq_self_iff_true, beq_eq_false_iff_ne, bne_iff_ne, List.replicate, encFl, *]))))
    refine seq_is ?S2true ?h1_2true ?h2_2true
    case h1_2true =>
        iterate 40 (all_goals (try (first
          | ((with_reducible refine of_kSpec ?_); refine call_ow (spec41 p.nots (by omega)) rfl ?_)
          | (with_reducible refine ite_in (fun _ => ?_) (fun _ => ?_))
          | (with_reducible refine ⟨fun _ => ?_, fun _ => ?_⟩)
          | (with_reducible refine And.intro ?_ ?_)
          | (with_reducible intro _)
          | (with_reducible exact is_in _)
          | (simp -implicitDefEqProofs only [SD, SF, SL, e_nf, reduceCtorEq, implies_true, ↓reduceIte, Nat.reduceEqDiff, Nat.reduceAdd, Nat.reduceMul, Nat.reduceSub, Nat.reduceLeDiff, Nat.reduceLT, Int.reduceLT, Int.reduceLE, Int.reduceEq, Int.reduceToNat, Int.reduceAdd, Int.reduceSub, Int.reduceNeg, Int.reduceBEq, Int.reduceBNe, Nat.reduceBEq, Int.cast_ofNat_Int, decide_true, decide_false, ne_eq, eq_self_iff_true, beq_eq_false_iff_ne, bne_iff_ne, List.replicate, encFl, *]))))
    iterate 5 (all_goals (try (first
      | (with_reducible refine ite_in (fun _ => ?_) (fun _ => ?_))
      | (with_reducible refine ⟨fun _ => ?_, fun _ => ?_⟩)
      | (with_reducible refine And.intro ?_ ?_)
      | (with_reducible intro _)
      | (with_reducible exact is_in _)
      | (simp -implicitDefEqProofs only [SD, SF, SL, e_nf, reduceCtorEq, implies_true, ↓reduceIte, Nat.reduceEqDiff, Nat.reduceAdd, Nat.reduceMul, Nat.reduceSub, Nat.reduceLeDiff, Nat.reduceLT, Int.reduceLT, Int.reduceLE, Int.reduceEq, Int.reduceToNat, Int.reduceAdd, Int.reduceSub, Int.reduceNeg, Int.reduceBEq, Int.reduceBNe, Nat.reduceBEq, Int.cast_ofNat_Int, decide_true, decide_false, ne_eq, eq_self_iff_true, beq_eq_false_iff_ne, bne_iff_ne, List.replicate, encFl, *]))))
    refine loop_r (X := List Int × List Int × (DV × List (Nat × Blk))) (fun n x => q.nots = x.1 ++ x.2.1 ∧ n = x.2.1.length ∧ ((ninL p.nots x.1 = [] ∧ x.2.2 = (DV.ow 25, [(25, Blk.vec 30 1 (p.nots.map encN))])) ∨ x.2.2 = (DV.ow 43, [(43, Blk.vec 30 1 ((p.nots ++ ninL p.nots x.1).map encN))]))) (fun x => [(30, .int .i64 x.1.length)]) (fun x => [(5, Blk.box [.e0, x.2.2.1, .e0, .int .i64 (if q.limit < p.limit then q.limit else p.limit), .bool true])] ++ x.2.2.2) [7, 31, 32, 33, 34, 35, 36, 37, 38, 39, 40, 41, 42, 43, 44, 45] [5, 25, 42, 43] [42] (q.nots).length ([], q.nots, (DV.ow 25, [(25, Blk.vec 30 1 (p.nots.map encN))])) ⟨rfl, rfl, by exact .inl ⟨rfl, rfl⟩⟩ ?_ ?_
    · simp -implicitDefEqProofs only [SD, SF, SL, e_nf, reduceCtorEq, implies_true, ↓reduceIte, Nat.reduceEqDiff, Nat.reduceAdd, Nat.reduceMul, Nat.reduceSub, Nat.reduceLeDiff, Nat.reduceLT, Int.reduceLT, Int.reduceLE, Int.reduceEq, Int.reduceToNat, Int.reduceAdd, Int.reduceSub, Int.reduceNeg, Int.reduceBEq, Int.reduceBNe, Nat.reduceBEq, Int.cast_ofNat_Int, decide_true, decide_false, ne_eq, eq_self_iff_true, beq_eq_false_iff_ne, bne_iff_ne, List.replicate, encFl, encN] <;> simp
    · rintro n ⟨pre, rest, a⟩ ⟨he, rfl, hI⟩
      dsimp only at he hI
      cases rest with
      | nil =>
        obtain rfl : q.nots = pre := by simpa using he
        clear he
        have hlt : ¬ (((q.nots).length : Int) < ((q.nots).length : Int)) := Int.lt_irrefl _
        rcases hI with ⟨hl0, rfl⟩ | rfl
        all_goals try replace hl0 := Hd.mk hl0
        all_goals have hand : andL p q = (if (!(bothE p.kinds q.kinds).2 || !(bothE p.senders q.senders).2) = true then ⟨everyL, everyL, (bothE p.senders q.senders).1, minI p.limit q.limit, p.lzy || q.lzy⟩ else ⟨(bothE p.kinds q.kinds).1, p.nots ++ ninL p.nots q.nots, (bothE p.senders q.senders).1, minI p.limit q.limit, p.lzy || q.lzy⟩) := rfl
        all_goals by_cases hk : (bothE p.kinds q.kinds).2 = true
        all_goals by_cases hs : (bothE p.senders q.senders).2 = true
        all_goals try (replace hk : (bothE p.kinds q.kinds).2 = false := by simpa using hk)
        all_goals try (replace hs : (bothE p.senders q.senders).2 = false := by simpa using hs)
        all_goals rw [hk, hs] at hand
        all_goals simp only [Bool.not_true, Bool.not_false, Bool.or_true, Bool.or_false, Bool.true_or, Bool.false_or, Bool.false_eq_true, if_true, if_false, ↓reduceIte, hz, minI] at hand
        all_goals try (rw [hl0.out, List.append_nil] at hand)
        iterate 40 (all_goals (try (first
          | ((with_reducible refine of_kSpec ?_); refine call_fz (spec34 p.nots x) rfl ?_)
          | ((with_reducible refine of_kSpec ?_); refine call_fz (spec42 p.kinds q.kinds h1 g1) rfl ?_)
          | ((with_reducible refine of_kSpec ?_); refine call_fz (spec43 p.senders q.senders h3 g3) rfl ?_)
          | ((with_reducible refine of_kSpec ?_); refine call_fz (spec44) rfl ?_)
          | (with_reducible refine ite_in (fun _ => ?_) (fun _ => ?_))
          | (with_reducible refine ⟨fun _ => ?_, fun _ => ?_⟩)
          | (with_reducible refine And.intro ?_ ?_)
          | (with_reducible intro _)
          | (with_reducible exact is_in _)
          | (simp -implicitDefEqProofs only [SD, SF, SL, e_nf, reduceCtorEq, implies_true, ↓reduceIte, Nat.reduceEqDiff, Nat.reduceAdd, Nat.reduceMul, Nat.reduceSub, Nat.reduceLeDiff, Nat.reduceLT, Int.reduceLT, Int.reduceLE, Int.reduceEq, Int.reduceToNat, Int.reduceAdd, Int.reduceSub, Int.reduceNeg, Int.reduceBEq, Int.reduceBNe, Nat.reduceBEq, Int.cast_ofNat_Int, decide_true, decide_false, ne_eq, eq_self_iff_true, beq_eq_false_iff_ne, bne_iff_ne, List.replicate, encFl, encN, *]))))
        all_goals (skip)

      | cons x rest =>
        have hlt := cut_lt he
        have hx := cutD encN he
        simp only [encN] at hx
        have hw := wrap_len (n := pre.length) (m := (q.nots).length) (cut_lt' he) (by simp only [maxLen]; omega)
        replace he := Hd.mk he
        have hz1 := cut_lt' he.out
        have hlo := nin_len p.nots pre
        have hz2 : p.nots.length + (ninL p.nots pre).length + 1 ≤ maxLen := by simp only [maxLen]; omega
        have hz3 : (p.nots.length + (ninL p.nots pre).length + 1) * 8 ≤ 140737488355328 := by omega
        have hsn := nin_snoc p.nots pre x
        rcases hI with ⟨hp0, rfl⟩ | rfl
        all_goals try replace hp0 := Hd.mk hp0
        all_goals by_cases hw1 : x ∈ p.nots
        iterate 40 (all_goals (try (first
          | ((with_reducible refine back_in rest.length [7, 31, 32, 33, 34, 35, 36, 37, 38, 39, 40, 41, 42, 43, 44, 45] [42] (pre ++ [x], rest, (DV.ow 25, [(25, Blk.vec 30 1 (p.nots.map encN))])) ?_ ⟨?_, ?_, ?_⟩ ?_)
             · simp
             · exact cut_snoc he.out
             · rfl
             · first | (left; refine ⟨?_, rfl⟩; rw [hsn, if_pos hw1]; exact hp0.out) | (right; rw [hsn, if_pos hw1]) | (right; rw [hsn, if_neg hw1, hp0.out]; simp; done) | (right; rw [hsn, if_neg hw1]; simp; done)
             · first | (simp -implicitDefEqProofs only [SD, SF, SL, e_nf, reduceCtorEq, implies_true, ↓reduceIte, Nat.reduceEqDiff, Nat.reduceAdd, Nat.reduceMul, Nat.reduceSub, Nat.reduceLeDiff, Nat.reduceLT, Int.reduceLT, Int.reduceLE, Int.reduceEq, Int.reduceToNat, Int.reduceAdd, Int.reduceSub, Int.reduceNeg, Int.reduceBEq, Int.reduceBNe, Nat.reduceBEq, Int.cast_ofNat_Int, decide_true, decide_false, ne_eq, eq_self_iff_true, beq_eq_false_iff_ne, bne_iff_ne, List.replicate, encFl, encN] <;> simp <;> done) | (simp -implicitDefEqProofs only [SD, SF, SL, e_nf, reduceCtorEq, implies_true, ↓reduceIte, Nat.reduceEqDiff, Nat.reduceAdd, Nat.reduceMul, Nat.reduceSub, Nat.reduceLeDiff, Nat.reduceLT, Int.reduceLT, Int.reduceLE, Int.reduceEq, Int.reduceToNat, Int.reduceAdd, Int.reduceSub, Int.reduceNeg, Int.reduceBEq, Int.reduceBNe, Nat.reduceBEq, Int.cast_ofNat_Int, decide_true, decide_false, ne_eq, eq_self_iff_true, beq_eq_false_iff_ne, bne_iff_ne, List.replicate, encFl, encN, *] <;> simp_all <;> done))
          | ((with_reducible refine back_in rest.length [7, 31, 32, 33, 34, 35, 36, 37, 38, 39, 40, 41, 42, 43, 44, 45] [42] (pre ++ [x], rest, (DV.ow 43, [(43, Blk.vec 30 1 ((p.nots ++ ninL p.nots pre).map encN))])) ?_ ⟨?_, ?_, ?_⟩ ?_)
             · simp
             · exact cut_snoc he.out
             · rfl
             · first | (left; refine ⟨?_, rfl⟩; rw [hsn, if_pos hw1]; exact hp0.out) | (right; rw [hsn, if_pos hw1]) | (right; rw [hsn, if_neg hw1, hp0.out]; simp; done) | (right; rw [hsn, if_neg hw1]; simp; done)
             · first | (simp -implicitDefEqProofs only [SD, SF, SL, e_nf, reduceCtorEq, implies_true, ↓reduceIte, Nat.reduceEqDiff, Nat.reduceAdd, Nat.reduceMul, Nat.reduceSub, Nat.reduceLeDiff, Nat.reduceLT, Int.reduceLT, Int.reduceLE, Int.reduceEq, Int.reduceToNat, Int.reduceAdd, Int.reduceSub, Int.reduceNeg, Int.reduceBEq, Int.reduceBNe, Nat.reduceBEq, Int.cast_ofNat_Int, decide_true, decide_false, ne_eq, eq_self_iff_true, beq_eq_false_iff_ne, bne_iff_ne, List.replicate, encFl, encN] <;> simp <;> done) | (simp -implicitDefEqProofs only [SD, SF, SL, e_nf, reduceCtorEq, implies_true, ↓reduceIte, Nat.reduceEqDiff, Nat.reduceAdd, Nat.reduceMul, Nat.reduceSub, Nat.reduceLeDiff, Nat.reduceLT, Int.reduceLT, Int.reduceLE, Int.reduceEq, Int.reduceToNat, Int.reduceAdd, Int.reduceSub, Int.reduceNeg, Int.reduceBEq, Int.reduceBNe, Nat.reduceBEq, Int.cast_ofNat_Int, decide_true, decide_false, ne_eq, eq_self_iff_true, beq_eq_false_iff_ne, bne_iff_ne, List.replicate, encFl, encN, *] <;> simp_all <;> done))
          | ((with_reducible refine back_in rest.length [7, 31, 32, 33, 34, 35, 36, 37, 38, 39, 40, 41, 42, 43, 44, 45] [42] (pre ++ [x], rest, (DV.ow 43, [(43, Blk.vec 30 1 ((p.nots ++ ninL p.nots pre).map encN ++ [encN x]))])) ?_ ⟨?_, ?_, ?_⟩ ?_)
             · simp
             · exact cut_snoc he.out
             · rfl
             · first | (left; refine ⟨?_, rfl⟩; rw [hsn, if_pos hw1]; exact hp0.out) | (right; rw [hsn, if_pos hw1]) | (right; rw [hsn, if_neg hw1, hp0.out]; simp; done) | (right; rw [hsn, if_neg hw1]; simp; done)
             · first | (simp -implicitDefEqProofs only [SD, SF, SL, e_nf, reduceCtorEq, implies_true, ↓reduceIte, Nat.reduceEqDiff, Nat.reduceAdd, Nat.reduceMul, Nat.reduceSub, Nat.reduceLeDiff, Nat.reduceLT, Int.reduceLT, Int.reduceLE, Int.reduceEq, Int.reduceToNat, Int.reduceAdd, Int.reduceSub, Int.reduceNeg, Int.reduceBEq, Int.reduceBNe, Nat.reduceBEq, Int.cast_ofNat_Int, decide_true, decide_false, ne_eq, eq_self_iff_true, beq_eq_false_iff_ne, bne_iff_ne, List.replicate, encFl, encN] <;> simp <;> done) | (simp -implicitDefEqProofs only [SD, SF, SL, e_nf, reduceCtorEq, implies_true, ↓reduceIte, Nat.reduceEqDiff, Nat.reduceAdd, Nat.reduceMul, Nat.reduceSub, Nat.reduceLeDiff, Nat.reduceLT, Int.reduceLT, Int.reduceLE, Int.reduceEq, Int.reduceToNat, Int.reduceAdd, Int.reduceSub, Int.reduceNeg, Int.reduceBEq, Int.reduceBNe, Nat.reduceBEq, Int.cast_ofNat_Int, decide_true, decide_false, ne_eq, eq_self_iff_true, beq_eq_false_iff_ne, bne_iff_ne, List.replicate, encFl, encN, *] <;> simp_all <;> done))
          | ((with_reducible refine back_in rest.length [7, 31, 32, 33, 34, 35, 36, 37, 38, 39, 40, 41, 42, 43, 44, 45] [42] (pre ++ [x], rest, (DV.ow 43, [(43, Blk.vec 30 1 (p.nots.map encN ++ [encN x]))])) ?_ ⟨?_, ?_, ?_⟩ ?_)
             · simp
             · exact cut_snoc he.out
             · rfl
             · first | (left; refine ⟨?_, rfl⟩; rw [hsn, if_pos hw1]; exact hp0.out) | (right; rw [hsn, if_pos hw1]) | (right; rw [hsn, if_neg hw1, hp0.out]; simp; done) | (right; rw [hsn, if_neg hw1]; simp; done)
             · first | (simp -implicitDefEqProofs only [SD, SF, SL, e_nf, reduceCtorEq, implies_true, ↓reduceIte, Nat.reduceEqDiff, Nat.reduceAdd, Nat.reduceMul, Nat.reduceSub, Nat.reduceLeDiff, Nat.reduceLT, Int.reduceLT, Int.reduceLE, Int.reduceEq, Int.reduceToNat, Int.reduceAdd, Int.reduceSub, Int.reduceNeg, Int.reduceBEq, Int.reduceBNe, Nat.reduceBEq, Int.cast_ofNat_Int, decide_true, decide_false, ne_eq, eq_self_iff_true, beq_eq_false_iff_ne, bne_iff_ne, List.replicate, encFl, encN] <;> simp <;> done) | (simp -implicitDefEqProofs only [SD, SF, SL, e_nf, reduceCtorEq, implies_true, ↓reduceIte, Nat.reduceEqDiff, Nat.reduceAdd, Nat.reduceMul, Nat.reduceSub, Nat.reduceLeDiff, Nat.reduceLT, Int.reduceLT, Int.reduceLE, Int.reduceEq, Int.reduceToNat, Int.reduceAdd, Int.reduceSub, Int.reduceNeg, Int.reduceBEq, Int.reduceBNe, Nat.reduceBEq, Int.cast_ofNat_Int, decide_true, decide_false, ne_eq, eq_self_iff_true, beq_eq_false_iff_ne, bne_iff_ne, List.replicate, encFl, encN, *] <;> simp_all <;> done))
          | ((with_reducible refine of_kSpec ?_); refine call_fz (spec34 p.nots x) rfl ?_)
          | ((with_reducible refine of_kSpec ?_); refine call_fz (spec42 p.kinds q.kinds h1 g1) rfl ?_)
          | ((with_reducible refine of_kSpec ?_); refine call_fz (spec43 p.senders q.senders h3 g3) rfl ?_)
          | ((with_reducible refine of_kSpec ?_); refine call_fz (spec44) rfl ?_)
          | (with_reducible refine ite_in (fun _ => ?_) (fun _ => ?_))
          | (with_reducible refine ⟨fun _ => ?_, fun _ => ?_⟩)
          | (with_reducible refine And.intro ?_ ?_)
          | (with_reducible intro _)
          | (with_reducible exact is_in _)
          | (simp -implicitDefEqProofs only [SD, SF, SL, e_nf, reduceCtorEq, implies_true, ↓reduceIte, Nat.reduceEqDiff, Nat.reduceAdd, Nat.reduceMul, Nat.reduceSub, Nat.reduceLeDiff, Nat.reduceLT, Int.reduceLT, Int.reduceLE, Int.reduceEq, Int.reduceToNat, Int.reduceAdd, Int.reduceSub, Int.reduceNeg, Int.reduceBEq, Int.reduceBNe, Nat.reduceBEq, Int.cast_ofNat_Int, decide_true, decide_false, ne_eq, eq_self_iff_true, beq_eq_false_iff_ne, bne_iff_ne, List.replicate, encFl, encN, *]))))
        all_goals (first | omega | (simp only [maxLen, List.length_append, List.length_map, List.length_cons, List.length_nil] <;> omega) | (simp_all; done))


end Go.Proofs.Ytamcbdflmephdaa.E
