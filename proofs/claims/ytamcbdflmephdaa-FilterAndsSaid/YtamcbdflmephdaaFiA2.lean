/-
  FiA2: walks of functions of the program at data level.
-/
import Derived.Test.YtamcbdflmephdaaProg
import Derived.Test.YtamcbdflmephdaaEngZ
import Derived.Test.YtamcbdflmephdaaFiA1
import Derived.KernelRfl
set_option linter.unusedVariables false
set_option linter.unusedSimpArgs false
namespace Go.Proofs.Ytamcbdflmephdaa.E
open Go
set_option maxHeartbeats 4000000
set_option maxRecDepth 100000
set_option linter.unusedSimpArgs false
set_option linter.unusedVariables false
attribute [local congr] c_wp c_ops c_op c_opS c_run c_runS c_dt c_seq c_blk c_loop c_S c_put c_bind c_mv c_pick c_nt c_ng c_bin c_binI c_binS c_beq c_B c_eqa c_hd c_cells c_blkK c_box c_vec c_mp c_nck c_mks c_appn c_mkm c_mput c_mlk c_mrm c_take c_ld c_ldF c_cellsK c_st c_fld c_fldv c_ix c_ixp c_ixv c_ixs c_sub c_subs c_len c_lens c_src c_dst c_ow c_app c_ext c_mm c_conv c_str c_isn c_fill c_rows c_boxo c_frz c_frzO c_frzA c_frzV c_spec c_specO c_opsP c_opP c_runP c_specP c_Z c_qretP c_fz c_fn c_gv c_cond c_res1 c_resL c_ret c_qret c_ite c_unr c_nx c_bk c_cut c_is
attribute [local irreducible] dwp

theorem both_len {α : Type} [DecidableEq α] (u v : List α) (n : Nat) (hu : u.length ≤ n) (hv : v.length ≤ n) : (bothE u v).1.length ≤ n := by
  unfold bothE
  split
  · exact hv
  · split
    · exact hu
    · exact Nat.le_trans (inB_len u v) hu
def ac23 : AC := (.seq (.ops [⟨(some 2), none, (.box (.t 0))⟩, ⟨(some 3), none, (.box (.t 1))⟩, ⟨(some 4), none, (.alloc [.e0, .e0, .e0, (.int .i64 0), (.bool false)])⟩]) (.seq (.fz 3 (.fz 2 (.ops [⟨(some 11), none, (.fld 3 (.t 2))⟩, ⟨(some 12), none, (.ld false 1 (.t 11))⟩, ⟨(some 13), none, (.fld 4 (.t 2))⟩, ⟨(some 14), none, (.ld false 1 (.t 13))⟩, ⟨(some 15), none, (.mv (.t 14))⟩, ⟨(some 16), (some (15, false)), (.fld 4 (.t 3))⟩, ⟨(some 17), (some (15, false)), (.ld false 1 (.t 16))⟩, ⟨(some 18), none, (.pick (.t 15) (.c (.bool true)) (.t 17))⟩, ⟨(some 19), none, (.build [.e0, .e0, .e0, (.int .i64 0), (.bool false)] [(3, (1, (.t 12))), (4, (1, (.t 18)))])⟩, ⟨(some 5), none, (.alloc [.e0, .e0, .e0, (.int .i64 0), (.bool false)])⟩, ⟨none, none, (.sto 5 (.t 5) (.t 19))⟩]))) (.seq (.seq (.ops [⟨(some 20), none, (.fld 3 (.t 3))⟩, ⟨(some 21), none, (.ld false 1 (.t 20))⟩, ⟨(some 22), none, (.fld 3 (.t 2))⟩, ⟨(some 23), none, (.ld false 1 (.t 22))⟩, ⟨(some 24), none, (.bin .lss (.t 21) (.t 23))⟩]) (.cond (.t 24) (.ops [⟨(some 25), none, (.fld 3 (.t 3))⟩, ⟨(some 26), none, (.ld false 1 (.t 25))⟩, ⟨(some 27), none, (.fld 3 (.t 5))⟩, ⟨none, none, (.sto 1 (.t 27) (.t 26))⟩]) .skip)) (.seq (.ops [⟨(some 29), none, (.fld 0 (.t 2))⟩, ⟨(some 30), none, (.ld false 1 (.t 29))⟩, ⟨(some 31), none, (.fld 0 (.t 3))⟩, ⟨(some 32), none, (.ld false 1 (.t 31))⟩, ⟨(some 33), none, (.call false 46 [(.t 30), (.t 32)])⟩, ⟨(some 28), none, (.mv (.t 33))⟩, ⟨(some 34), none, (.ext (.t 28) 0)⟩, ⟨(some 35), none, (.ext (.t 28) 1)⟩, ⟨(some 6), none, (.mv (.t 34))⟩, ⟨(some 7), none, (.mv (.t 35))⟩]) (.seq (.ops [⟨(some 37), none, (.fld 2 (.t 2))⟩, ⟨(some 38), none, (.ld false 1 (.t 37))⟩, ⟨(some 39), none, (.fld 2 (.t 3))⟩, ⟨(some 40), none, (.ld false 1 (.t 39))⟩, ⟨(some 41), none, (.call false 47 [(.t 38), (.t 40)])⟩, ⟨(some 36), none, (.mv (.t 41))⟩, ⟨(some 42), none, (.ext (.t 36) 0)⟩, ⟨(some 43), none, (.ext (.t 36) 1)⟩, ⟨(some 8), none, (.mv (.t 42))⟩, ⟨(some 9), none, (.mv (.t 43))⟩]) (.seq (.ops [⟨(some 44), none, (.buildSl 30 1 0 [(.int .i64 0)] [])⟩, ⟨(some 45), none, (.mv (.t 6))⟩, ⟨(some 46), none, (.app 30 1 8 (.t 44) (.t 45))⟩, ⟨(some 47), none, (.buildSl 9 1 0 [(.str [])] [])⟩, ⟨(some 48), none, (.mv (.t 8))⟩, ⟨(some 49), none, (.app 9 1 16 (.t 47) (.t 48))⟩, ⟨(some 50), none, (.fld 0 (.t 5))⟩, ⟨none, none, (.sto 1 (.t 50) (.t 46))⟩, ⟨(some 51), none, (.fld 2 (.t 5))⟩, ⟨none, none, (.sto 1 (.t 51) (.t 49))⟩]) (.seq (.ops [⟨(some 52), none, (.buildSl 30 1 0 [(.int .i64 0)] [])⟩, ⟨(some 53), none, (.fld 1 (.t 2))⟩, ⟨(some 54), none, (.ld false 1 (.t 53))⟩, ⟨(some 55), none, (.app 30 1 8 (.t 52) (.t 54))⟩, ⟨(some 56), none, (.fld 1 (.t 5))⟩, ⟨none, none, (.sto 1 (.t 56) (.t 55))⟩]) (.seq (.seq (.ops [⟨(some 10), none, (.mv (.c (.int .i64 0)))⟩]) (.block 0 (.loop (.seq (.seq (.ops [⟨(some 57), none, (.mv (.t 10))⟩, ⟨(some 58), none, (.fld 1 (.t 3))⟩, ⟨(some 59), none, (.ld false 1 (.t 58))⟩, ⟨(some 60), none, (.len (.t 59))⟩, ⟨(some 61), none, (.bin .lss (.t 57) (.t 60))⟩]) (.cond (.t 61) .skip (.exit 0))) (.seq (.block 1 (.seq (.draw (.q false ⟨(some 64), none, (.fld 1 (.t 2))⟩ (.q false ⟨(some 65), none, (.ld false 1 (.t 64))⟩ (.q false ⟨(some 66), none, (.fld 1 (.t 3))⟩ (.q false ⟨(some 67), none, (.ld false 1 (.t 66))⟩ (.q false ⟨(some 68), none, (.mv (.t 10))⟩ (.q false ⟨(some 69), none, (.ix 1 (.t 67) (.t 68))⟩ (.q false ⟨(some 70), none, (.ld false 1 (.t 69))⟩ (.op ⟨(some 71), none, (.call false 36 [(.t 65), (.t 70)])⟩ (.q false ⟨(some 72), none, (.nt (.t 71))⟩ .nil)))))))))) (.cond (.t 72) (.draw (.q false ⟨(some 73), none, (.fld 1 (.t 5))⟩ (.q false ⟨(some 74), none, (.ld false 1 (.t 73))⟩ (.q false ⟨(some 75), none, (.fld 1 (.t 3))⟩ (.q false ⟨(some 76), none, (.ld false 1 (.t 75))⟩ (.q false ⟨(some 77), none, (.mv (.t 10))⟩ (.q false ⟨(some 78), none, (.ix 1 (.t 76) (.t 77))⟩ (.q false ⟨(some 79), none, (.ld false 1 (.t 78))⟩ (.op ⟨(some 80), none, (.buildSl 30 1 1 [(.int .i64 0)] [(0, (.t 79))])⟩ (.op ⟨(some 81), none, (.app 30 1 8 (.t 74) (.t 80))⟩ (.q false ⟨(some 82), none, (.fld 1 (.t 5))⟩ (.op ⟨none, none, (.sto 1 (.t 82) (.t 81))⟩ .nil)))))))))))) .skip))) (.ops [⟨(some 62), none, (.mv (.t 10))⟩, ⟨(some 63), none, (.bin .add (.t 62) (.c (.int .i64 1)))⟩, ⟨(some 10), none, (.mv (.t 63))⟩])))))) (.seq (.seq (.ops [⟨(some 83), none, (.mv (.t 7))⟩, ⟨(some 84), none, (.nt (.t 83))⟩, ⟨(some 85), none, (.mv (.t 84))⟩, ⟨(some 86), (some (85, false)), (.mv (.t 9))⟩, ⟨(some 87), (some (85, false)), (.nt (.t 86))⟩, ⟨(some 88), none, (.pick (.t 85) (.c (.bool true)) (.t 87))⟩]) (.cond (.t 88) (.ops [⟨(some 89), none, (.call false 48 [])⟩, ⟨(some 90), none, (.call false 48 [])⟩, ⟨(some 91), none, (.fld 0 (.t 5))⟩, ⟨none, none, (.sto 1 (.t 91) (.t 89))⟩, ⟨(some 92), none, (.fld 1 (.t 5))⟩, ⟨none, none, (.sto 1 (.t 92) (.t 90))⟩]) .skip)) (.seq (.ops [⟨(some 93), none, (.ld true 5 (.t 5))⟩, ⟨none, none, (.sto 5 (.t 4) (.t 93))⟩]) .ret))))))))))
theorem tr23 : Try.f23.body.bind (trCode Try.prog) = some (strip ac23) := by kernel_rfl
theorem spec23 (p q : Flt) (h1 : p.kinds.length ≤ 400) (h2 : p.nots.length ≤ 400) (h3 : p.senders.length ≤ 400) (g1 : q.kinds.length ≤ 400) (g2 : q.nots.length ≤ 400) (g3 : q.senders.length ≤ 400) : Spec Try.prog 23 [.fz (.agg (encFl p)), .fz (.agg (encFl q))] (.fz (.agg (encFl (andL p q)))) := by
  refine spec_at (n := 92) (ars := [(.c true 5 4)]) (ac := ac23) Try.func23 (by kernel_rfl) (by kernel_rfl) tr23 (by kernel_rfl) ?_
  unfold ac23
  have b1 := both_len p.kinds q.kinds 400 h1 g1
  have b2 := both_len p.senders q.senders 400 h3 g3
  have b3 : (bothE p.kinds q.kinds).1.length ≤ maxLen := by simp only [maxLen]; omega
  have b4 : (bothE p.senders q.senders).1.length ≤ maxLen := by simp only [maxLen]; omega
  have b5 : (bothE p.kinds q.kinds).1.length * 8 ≤ 140737488355328 := by omega
  have b6 : (bothE p.senders q.senders).1.length * 16 ≤ 140737488355328 := by omega
  have b7 : p.nots.length ≤ maxLen := by simp only [maxLen]; omega
  have b8 : p.nots.length * 8 ≤ 140737488355328 := by omega
  rcases hz : p.lzy with _ | _
  case false =>
    by_cases hm : q.limit < p.limit
    case pos =>
      have hm0 : (q.limit < p.limit) := hm
      refine seq_is ?S1falsepos ?h1_1falsepos ?h2_1falsepos
      case h1_1falsepos =>
          iterate 4 (all_goals (try (first
            | (with_reducible refine ite_in (fun _ => ?_) (fun _ => ?_))
            | (with_reducible refine ⟨fun _ => ?_, fun _ => ?_⟩)
            | (with_reducible refine And.intro ?_ ?_)
            | (with_reducible intro _)
            | (with_reducible exact is_in _)
            | (simp -implicitDefEqProofs only [SD, SF, SL, e_nf, reduceCtorEq, implies_true, ↓reduceIte, Nat.reduceEqDiff, Nat.reduceAdd, Nat.reduceMul, Nat.reduceSub, Nat.reduceLeDiff, Nat.reduceLT, Int.reduceLT, Int.reduceLE, Int.reduceEq, Int.reduceToNat, Int.reduceAdd, Int.reduceSub, Int.reduceNeg, Int.reduceBEq, Int.reduceBNe, Nat.reduceBEq, Int.cast_ofNat_Int, decide_true, decide_false, ne_eq, eq_self_iff_true, beq_eq_false_iff_ne, bne_iff_ne, List.replicate, encFl, *]))))
      iterate 14 (all_goals (try (first
        | ((with_reducible refine of_kSpec ?_); refine call_fz (spec46 p.kinds q.kinds h1 g1) rfl ?_)
        | ((with_reducible refine of_kSpec ?_); refine call_fz (spec47 p.senders q.senders h3 g3) rfl ?_)
        | (with_reducible refine ite_in (fun _ => ?_) (fun _ => ?_))
        | (with_reducible refine ⟨fun _ => ?_, fun _ => ?_⟩)
        | (with_reducible refine And.intro ?_ ?_)
        | (with_reducible intro _)
        | (with_reducible exact is_in _)
        | (simp -implicitDefEqProofs only [SD, SF, SL, e_nf, reduceCtorEq, implies_true, ↓reduceIte, Nat.reduceEqDiff, Nat.reduceAdd, Nat.reduceMul, Nat.reduceSub, Nat.reduceLeDiff, Nat.reduceLT, Int.reduceLT, Int.reduceLE, Int.reduceEq, Int.reduceToNat, Int.reduceAdd, Int.reduceSub, Int.reduceNeg, Int.reduceBEq, Int.reduceBNe, Nat.reduceBEq, Int.cast_ofNat_Int, decide_true, decide_false, ne_eq, eq_self_iff_true, beq_eq_false_iff_ne, bne_iff_ne, List.replicate, encFl, *]))))
      refine loop_r (X := List Int × List Int × (DV × List (Nat × Blk))) (fun n x => q.nots = x.1 ++ x.2.1 ∧ n = x.2.1.length ∧ ((ninL p.nots x.1 = [] ∧ x.2.2 = (DV.ow 55, [(55, Blk.vec 30 1 (p.nots.map encN))])) ∨ x.2.2 = (DV.ow 81, [(81, Blk.vec 30 1 ((p.nots ++ ninL p.nots x.1).map encN))]))) (fun x => [(10, .int .i64 x.1.length)]) (fun x => [(5, Blk.box [.ow 46, x.2.2.1, .ow 49, .int .i64 q.limit, .bool q.lzy])] ++ x.2.2.2) [57, 58, 59, 60, 61, 62, 63, 64, 65, 66, 67, 68, 69, 70, 71, 72, 73, 74, 75, 76, 77, 78, 79, 80, 81, 82] [5, 55, 80, 81] [80] (q.nots).length ([], q.nots, (DV.ow 55, [(55, Blk.vec 30 1 (p.nots.map encN))])) ⟨rfl, rfl, by exact .inl ⟨rfl, rfl⟩⟩ ?_ ?_
      · simp -implicitDefEqProofs only [SD, SF, SL, e_nf, reduceCtorEq, implies_true, ↓reduceIte, Nat.reduceEqDiff, Nat.reduceAdd, Nat.reduceMul, Nat.reduceSub, Nat.reduceLeDiff, Nat.reduceLT, Int.reduceLT, Int.reduceLE, Int.reduceEq, Int.reduceToNat, Int.reduceAdd, Int.reduceSub, Int.reduceNeg, Int.reduceBEq, Int.reduceBNe, Nat.reduceBEq, Int.cast_ofNat_Int, decide_true, decide_false, ne_eq, eq_self_iff_true, beq_eq_false_iff_ne, bne_iff_ne, List.replicate, encFl, encN] <;> simp
      · rintro n ⟨pre, rest, a⟩ ⟨he, rfl, hI⟩
        dsimp only at he hI
        cases rest with
        | nil =>
          obtain rfl : q.nots = pre := by simpa using he
          clear he
          have hlt : ¬ (((q.nots).length : Int) < ((q.nots).length : Int)) := Int.lt_irrefl _
          rcases hI with ⟨hl0, rfl⟩ | rfl
          all_goals try replace hl0 := Hd.mk hl0
          all_goals have hand : andL p q = (if (!(bothE p.kinds q.kinds).2 || !(bothE p.senders q.senders).2) = true then ⟨everyL, everyL, (bothE p.senders q.senders).1, minI p.limit q.limit, p.lzy || q.lzy⟩ else ⟨(bothE p.kinds q.kinds).1, p.nots ++ ninL p.nots q.nots, (bothE p.senders q.senders).1, minI p.limit q.limit, p.lzy || q.lzy⟩) := rfl
          all_goals by_cases hk : (bothE p.kinds q.kinds).2 = true
          all_goals by_cases hs : (bothE p.senders q.senders).2 = true
          all_goals try (replace hk : (bothE p.kinds q.kinds).2 = false := by simpa using hk)
          all_goals try (replace hs : (bothE p.senders q.senders).2 = false := by simpa using hs)
          all_goals rw [hk, hs] at hand
          all_goals simp only [Bool.not_true, Bool.not_false, Bool.or_true, Bool.or_false, Bool.true_or, Bool.false_or, Bool.false_eq_true, if_true, if_false, ↓reduceIte, hz, minI, hm] at hand
          all_goals try (rw [hl0.out, List.append_nil] at hand)
          iterate 40 (all_goals (try (first
            | ((with_reducible refine of_kSpec ?_); refine call_fz (spec36 p.nots x) rfl ?_)
            | ((with_reducible refine of_kSpec ?_); refine call_fz (spec48) rfl ?_)
            | (with_reducible refine ite_in (fun _ => ?_) (fun _ => ?_))
            | (with_reducible refine ⟨fun _ => ?_, fun _ => ?_⟩)
            | (with_reducible refine And.intro ?_ ?_)
            | (with_reducible intro _)
            | (with_reducible exact is_in _)
            | (simp -implicitDefEqProofs only [SD, SF, SL, e_nf, reduceCtorEq, implies_true, ↓reduceIte, Nat.reduceEqDiff, Nat.reduceAdd, Nat.reduceMul, Nat.reduceSub, Nat.reduceLeDiff, Nat.reduceLT, Int.reduceLT, Int.reduceLE, Int.reduceEq, Int.reduceToNat, Int.reduceAdd, Int.reduceSub, Int.reduceNeg, Int.reduceBEq, Int.reduceBNe, Nat.reduceBEq, Int.cast_ofNat_Int, decide_true, decide_false, ne_eq, eq_self_iff_true, beq_eq_false_iff_ne, bne_iff_ne, List.replicate, encFl, encN, *]))))
          all_goals (skip)

        | cons x rest =>
          have hlt := cut_lt he
          have hx := cutD encN he
          simp only [encN] at hx
          simp -implicitDefEqProofs only [SD, SF, SL, e_nf, reduceCtorEq, implies_true, ↓reduceIte, Nat.reduceEqDiff, Nat.reduceAdd, Nat.reduceMul, Nat.reduceSub, Nat.reduceLeDiff, Nat.reduceLT, Int.reduceLT, Int.reduceLE, Int.reduceEq, Int.reduceToNat, Int.reduceAdd, Int.reduceSub, Int.reduceNeg, Int.reduceBEq, Int.reduceBNe, Nat.reduceBEq, Int.cast_ofNat_Int, decide_true, decide_false, ne_eq, eq_self_iff_true, beq_eq_false_iff_ne, bne_iff_ne, List.replicate, encFl, encN, hlt]
          intro hl
          have hw := wrap_len (n := pre.length) (m := (q.nots).length) (cut_lt' he) (by simp only [maxLen]; omega)
          replace he := Hd.mk he
          have hz1 := cut_lt' he.out
          have hlo := nin_len p.nots pre
          have hz2 : p.nots.length + (ninL p.nots pre).length + 1 ≤ maxLen := by simp only [maxLen]; omega
          have hz3 : (p.nots.length + (ninL p.nots pre).length + 1) * 8 ≤ 140737488355328 := by omega
          have hsn := nin_snoc p.nots pre x
          rcases hI with ⟨hp0, rfl⟩ | rfl
          all_goals try replace hp0 := Hd.mk hp0
          all_goals by_cases hw1 : x ∈ p.nots
          iterate 40 (all_goals (try (first
            | ((with_reducible refine back_in rest.length [57, 58, 59, 60, 61, 62, 63, 64, 65, 66, 67, 68, 69, 70, 71, 72, 73, 74, 75, 76, 77, 78, 79, 80, 81, 82] [80] (pre ++ [x], rest, (DV.ow 55, [(55, Blk.vec 30 1 (p.nots.map encN))])) ?_ ⟨?_, ?_, ?_⟩ ?_)
               · simp
               · exact cut_snoc he.out
               · rfl
               · first | (left; refine ⟨?_, rfl⟩; rw [hsn, if_pos hw1]; exact hp0.out) | (right; rw [hsn, if_pos hw1]) | (right; rw [hsn, if_neg hw1, hp0.out]; simp; done) | (right; rw [hsn, if_neg hw1]; simp; done)
               · first | (simp -implicitDefEqProofs only [SD, SF, SL, e_nf, reduceCtorEq, implies_true, ↓reduceIte, Nat.reduceEqDiff, Nat.reduceAdd, Nat.reduceMul, Nat.reduceSub, Nat.reduceLeDiff, Nat.reduceLT, Int.reduceLT, Int.reduceLE, Int.reduceEq, Int.reduceToNat, Int.reduceAdd, Int.reduceSub, Int.reduceNeg, Int.reduceBEq, Int.reduceBNe, Nat.reduceBEq, Int.cast_ofNat_Int, decide_true, decide_false, ne_eq, eq_self_iff_true, beq_eq_false_iff_ne, bne_iff_ne, List.replicate, encFl, encN] <;> simp <;> done) | (simp -implicitDefEqProofs only [SD, SF, SL, e_nf, reduceCtorEq, implies_true, ↓reduceIte, Nat.reduceEqDiff, Nat.reduceAdd, Nat.reduceMul, Nat.reduceSub, Nat.reduceLeDiff, Nat.reduceLT, Int.reduceLT, Int.reduceLE, Int.reduceEq, Int.reduceToNat, Int.reduceAdd, Int.reduceSub, Int.reduceNeg, Int.reduceBEq, Int.reduceBNe, Nat.reduceBEq, Int.cast_ofNat_Int, decide_true, decide_false, ne_eq, eq_self_iff_true, beq_eq_false_iff_ne, bne_iff_ne, List.replicate, encFl, encN, *] <;> simp_all <;> done))
            | ((with_reducible refine back_in rest.length [57, 58, 59, 60, 61, 62, 63, 64, 65, 66, 67, 68, 69, 70, 71, 72, 73, 74, 75, 76, 77, 78, 79, 80, 81, 82] [80] (pre ++ [x], rest, (DV.ow 81, [(81, Blk.vec 30 1 ((p.nots ++ ninL p.nots pre).map encN))])) ?_ ⟨?_, ?_, ?_⟩ ?_)
               · simp
               · exact cut_snoc he.out
               · rfl
               · first | (left; refine ⟨?_, rfl⟩; rw [hsn, if_pos hw1]; exact hp0.out) | (right; rw [hsn, if_pos hw1]) | (right; rw [hsn, if_neg hw1, hp0.out]; simp; done) | (right; rw [hsn, if_neg hw1]; simp; done)
               · first | (simp -implicitDefEqProofs only [SD, SF, SL, e_nf, reduceCtorEq, implies_true, ↓reduceIte, Nat.reduceEqDiff, Nat.reduceAdd, Nat.reduceMul, Nat.reduceSub, Nat.reduceLeDiff, Nat.reduceLT, Int.reduceLT, Int.reduceLE, Int.reduceEq, Int.reduceToNat, Int.reduceAdd, Int.reduceSub, Int.reduceNeg, Int.reduceBEq, Int.reduceBNe, Nat.reduceBEq, Int.cast_ofNat_Int, decide_true, decide_false, ne_eq, eq_self_iff_true, beq_eq_false_iff_ne, bne_iff_ne, List.replicate, encFl, encN] <;> simp <;> done) | (simp -implicitDefEqProofs only [SD, SF, SL, e_nf, reduceCtorEq, implies_true, ↓reduceIte, Nat.reduceEqDiff, Nat.reduceAdd, Nat.reduceMul, Nat.reduceSub, Nat.reduceLeDiff, Nat.reduceLT, Int.reduceLT, Int.reduceLE, Int.reduceEq, Int.reduceToNat, Int.reduceAdd, Int.reduceSub, Int.reduceNeg, Int.reduceBEq, Int.reduceBNe, Nat.reduceBEq, Int.cast_ofNat_Int, decide_true, decide_false, ne_eq, eq_self_iff_true, beq_eq_false_iff_ne, bne_iff_ne, List.replicate, encFl, encN, *] <;> simp_all <;> done))
            | ((with_reducible refine back_in rest.length [57, 58, 59, 60, 61, 62, 63, 64, 65, 66, 67, 68, 69, 70, 71, 72, 73, 74, 75, 76, 77, 78, 79, 80, 81, 82] [80] (pre ++ [x], rest, (DV.ow 81, [(81, Blk.vec 30 1 ((p.nots ++ ninL p.nots pre).map encN ++ [encN x]))])) ?_ ⟨?_, ?_, ?_⟩ ?_)
               · simp
               · exact cut_snoc he.out
               · rfl
               · first | (left; refine ⟨?_, rfl⟩; rw [hsn, if_pos hw1]; exact hp0.out) | (right; rw [hsn, if_pos hw1]) | (right; rw [hsn, if_neg hw1, hp0.out]; simp; done) | (right; rw [hsn, if_neg hw1]; simp; done)
               · first | (simp -implicitDefEqProofs only [SD, SF, SL, e_nf, reduceCtorEq, implies_true, ↓reduceIte, Nat.reduceEqDiff, Nat.reduceAdd, Nat.reduceMul, Nat.reduceSub, Nat.reduceLeDiff, Nat.reduceLT, Int.reduceLT, Int.reduceLE, Int.reduceEq, Int.reduceToNat, Int.reduceAdd, Int.reduceSub, Int.reduceNeg, Int.reduceBEq, Int.reduceBNe, Nat.reduceBEq, Int.cast_ofNat_Int, decide_true, decide_false, ne_eq, eq_self_iff_true, beq_eq_false_iff_ne, bne_iff_ne, List.replicate, encFl, encN] <;> simp <;> done) | (simp -implicitDefEqProofs only [SD, SF, SL, e_nf, reduceCtorEq, implies_true, ↓reduceIte, Nat.reduceEqDiff, Nat.reduceAdd, Nat.reduceMul, Nat.reduceSub, Nat.reduceLeDiff, Nat.reduceLT, Int.reduceLT, Int.reduceLE, Int.reduceEq, Int.reduceToNat, Int.reduceAdd, Int.reduceSub, Int.reduceNeg, Int.reduceBEq, Int.reduceBNe, Nat.reduceBEq, Int.cast_ofNat_Int, decide_true, decide_false, ne_eq, eq_self_iff_true, beq_eq_false_iff_ne, bne_iff_ne, List.replicate, encFl, encN, *] <;> simp_all <;> done))
            | ((with_reducible refine back_in rest.length [57, 58, 59, 60, 61, 62, 63, 64, 65, 66, 67, 68, 69, 70, 71, 72, 73, 74, 75, 76, 77, 78, 79, 80, 81, 82] [80] (pre ++ [x], rest, (DV.ow 81, [(81, Blk.vec 30 1 (p.nots.map encN ++ [encN x]))])) ?_ ⟨?_, ?_, ?_⟩ ?_)
               · simp
               · exact cut_snoc he.out
               · rfl
               · first | (left; refine ⟨?_, rfl⟩; rw [hsn, if_pos hw1]; exact hp0.out) | (right; rw [hsn, if_pos hw1]) | (right; rw [hsn, if_neg hw1, hp0.out]; simp; done) | (right; rw [hsn, if_neg hw1]; simp; done)
               · first | (simp -implicitDefEqProofs only [SD, SF, SL, e_nf, reduceCtorEq, implies_true, ↓reduceIte, Nat.reduceEqDiff, Nat.reduceAdd, Nat.reduceMul, Nat.reduceSub, Nat.reduceLeDiff, Nat.reduceLT, Int.reduceLT, Int.reduceLE, Int.reduceEq, Int.reduceToNat, Int.reduceAdd, Int.reduceSub, Int.reduceNeg, Int.reduceBEq, Int.reduceBNe, Nat.reduceBEq, Int.cast_ofNat_Int, decide_true, decide_false, ne_eq, eq_self_iff_true, beq_eq_false_iff_ne, bne_iff_ne, List.replicate, encFl, encN] <;> simp <;> done) | (simp -implicitDefEqProofs only [SD, SF, SL, e_nf, reduceCtorEq, implies_true, ↓reduceIte, Nat.reduceEqDiff, Nat.reduceAdd, Nat.reduceMul, Nat.reduceSub, Nat.reduceLeDiff, Nat.reduceLT, Int.reduceLT, Int.reduceLE, Int.reduceEq, Int.reduceToNat, Int.reduceAdd, Int.reduceSub, Int.reduceNeg, Int.reduceBEq, Int.reduceBNe, Nat.reduceBEq, Int.cast_ofNat_Int, decide_true, decide_false, ne_eq, eq_self_iff_true, beq_eq_false_iff_ne, bne_iff_ne, List.replicate, encFl, encN, *] <;> simp_all <;> done))
            | ((with_reducible refine of_kSpec ?_); refine call_fz (spec36 p.nots x) rfl ?_)
            | ((with_reducible refine of_kSpec ?_); refine call_fz (spec48) rfl ?_)
            | (with_reducible refine ite_in (fun _ => ?_) (fun _ => ?_))
            | (with_reducible refine ⟨fun _ => ?_, fun _ => ?_⟩)
            | (with_reducible refine And.intro ?_ ?_)
            | (with_reducible intro _)
            | (with_reducible exact is_in _)
            | (simp -implicitDefEqProofs only [SD, SF, SL, e_nf, reduceCtorEq, implies_true, ↓reduceIte, Nat.reduceEqDiff, Nat.reduceAdd, Nat.reduceMul, Nat.reduceSub, Nat.reduceLeDiff, Nat.reduceLT, Int.reduceLT, Int.reduceLE, Int.reduceEq, Int.reduceToNat, Int.reduceAdd, Int.reduceSub, Int.reduceNeg, Int.reduceBEq, Int.reduceBNe, Nat.reduceBEq, Int.cast_ofNat_Int, decide_true, decide_false, ne_eq, eq_self_iff_true, beq_eq_false_iff_ne, bne_iff_ne, List.replicate, encFl, encN, *]))))
          all_goals (first | omega | (simp only [maxLen, List.length_append, List.length_map, List.length_cons, List.length_nil] <;> omega) | (simp_all; done))
    case neg =>
      have hm0 : ¬ (q.limit < p.limit) := hm
      refine seq_is ?S1falseneg ?h1_1falseneg ?h2_1falseneg
      case h1_1falseneg =>
          iterate 4 (all_goals (try (first
            | (with_reducible refine ite_in (fun _ => ?_) (fun _ => ?_))
            | (with_reducible refine ⟨fun _ => ?_, fun _ => ?_⟩)
            | (with_reducible refine And.intro ?_ ?_)
            | (with_reducible intro _)
            | (with_reducible exact is_in _)
            | (simp -implicitDefEqProofs only [SD, SF, SL, e_nf, reduceCtorEq, implies_true, ↓reduceIte, Nat.reduceEqDiff, Nat.reduceAdd, Nat.reduceMul, Nat.reduceSub, Nat.reduceLeDiff, Nat.reduceLT, Int.reduceLT, Int.reduceLE, Int.reduceEq, Int.reduceToNat, Int.reduceAdd, Int.reduceSub, Int.reduceNeg, Int.reduceBEq, Int.reduceBNe, Nat.reduceBEq, Int.cast_ofNat_Int, decide_true, decide_false, ne_eq, eq_self_iff_true, beq_eq_false_iff_ne, bne_iff_ne, List.replicate, encFl, *]))))
      iterate 14 (all_goals (try (first
        | ((with_reducible refine of_kSpec ?_); refine call_fz (spec46 p.kinds q.kinds h1 g1) rfl ?_)
        | ((with_reducible refine of_kSpec ?_); refine call_fz (spec47 p.senders q.senders h3 g3) rfl ?_)
        | (with_reducible refine ite_in (fun _ => ?_) (fun _ => ?_))
        | (with_reducible refine ⟨fun _ => ?_, fun _ => ?_⟩)
        | (with_reducible refine And.intro ?_ ?_)
        | (with_reducible intro _)
        | (with_reducible exact is_in _)
        | (simp -implicitDefEqProofs only [SD, SF, SL, e_nf, reduceCtorEq, implies_true, ↓reduceIte, Nat.reduceEqDiff, Nat.reduceAdd, Nat.reduceMul, Nat.reduceSub, Nat.reduceLeDiff, Nat.reduceLT, Int.reduceLT, Int.reduceLE, Int.reduceEq, Int.reduceToNat, Int.reduceAdd, Int.reduceSub, Int.reduceNeg, Int.reduceBEq, Int.reduceBNe, Nat.reduceBEq, Int.cast_ofNat_Int, decide_true, decide_false, ne_eq, eq_self_iff_true, beq_eq_false_iff_ne, bne_iff_ne, List.replicate, encFl, *]))))
      refine loop_r (X := List Int × List Int × (DV × List (Nat × Blk))) (fun n x => q.nots = x.1 ++ x.2.1 ∧ n = x.2.1.length ∧ ((ninL p.nots x.1 = [] ∧ x.2.2 = (DV.ow 55, [(55, Blk.vec 30 1 (p.nots.map encN))])) ∨ x.2.2 = (DV.ow 81, [(81, Blk.vec 30 1 ((p.nots ++ ninL p.nots x.1).map encN))]))) (fun x => [(10, .int .i64 x.1.length)]) (fun x => [(5, Blk.box [.ow 46, x.2.2.1, .ow 49, .int .i64 p.limit, .bool q.lzy])] ++ x.2.2.2) [57, 58, 59, 60, 61, 62, 63, 64, 65, 66, 67, 68, 69, 70, 71, 72, 73, 74, 75, 76, 77, 78, 79, 80, 81, 82] [5, 55, 80, 81] [80] (q.nots).length ([], q.nots, (DV.ow 55, [(55, Blk.vec 30 1 (p.nots.map encN))])) ⟨rfl, rfl, by exact .inl ⟨rfl, rfl⟩⟩ ?_ ?_
      · simp -implicitDefEqProofs only [SD, SF, SL, e_nf, reduceCtorEq, implies_true, ↓reduceIte, Nat.reduceEqDiff, Nat.reduceAdd, Nat.reduceMul, Nat.reduceSub, Nat.reduceLeDiff, Nat.reduceLT, Int.reduceLT, Int.reduceLE, Int.reduceEq, Int.reduceToNat, Int.reduceAdd, Int.reduceSub, Int.reduceNeg, Int.reduceBEq, Int.reduceBNe, Nat.reduceBEq, Int.cast_ofNat_Int, decide_true, decide_false, ne_eq, eq_self_iff_true, beq_eq_false_iff_ne, bne_iff_ne, List.replicate, encFl, encN] <;> simp
      · rintro n ⟨pre, rest, a⟩ ⟨he, rfl, hI⟩
        dsimp only at he hI
        cases rest with
        | nil =>
          obtain rfl : q.nots = pre := by simpa using he
          clear he
          have hlt : ¬ (((q.nots).length : Int) < ((q.nots).length : Int)) := Int.lt_irrefl _
          rcases hI with ⟨hl0, rfl⟩ | rfl
          all_goals try replace hl0 := Hd.mk hl0
          all_goals have hand : andL p q = (if (!(bothE p.kinds q.kinds).2 || !(bothE p.senders q.senders).2) = true then ⟨everyL, everyL, (bothE p.senders q.senders).1, minI p.limit q.limit, p.lzy || q.lzy⟩ else ⟨(bothE p.kinds q.kinds).1, p.nots ++ ninL p.nots q.nots, (bothE p.senders q.senders).1, minI p.limit q.limit, p.lzy || q.lzy⟩) := rfl
          all_goals by_cases hk : (bothE p.kinds q.kinds).2 = true
          all_goals by_cases hs : (bothE p.senders q.senders).2 = true
          all_goals try (replace hk : (bothE p.kinds q.kinds).2 = false := by simpa using hk)
          all_goals try (replace hs : (bothE p.senders q.senders).2 = false := by simpa using hs)
          all_goals rw [hk, hs] at hand
          all_goals simp only [Bool.not_true, Bool.not_false, Bool.or_true, Bool.or_false, Bool.true_or, Bool.false_or, Bool.false_eq_true, if_true, if_false, ↓reduceIte, hz, minI, hm] at hand
          all_goals try (rw [hl0.out, List.append_nil] at hand)
          iterate 40 (all_goals (try (first
            | ((with_reducible refine of_kSpec ?_); refine call_fz (spec36 p.nots x) rfl ?_)
            | ((with_reducible refine of_kSpec ?_); refine call_fz (spec48) rfl ?_)
            | (with_reducible refine ite_in (fun _ => ?_) (fun _ => ?_))
            | (with_reducible refine ⟨fun _ => ?_, fun _ => ?_⟩)
            | (with_reducible refine And.intro ?_ ?_)
            | (with_reducible intro _)
            | (with_reducible exact is_in _)
            | (simp -implicitDefEqProofs only [SD, SF, SL, e_nf, reduceCtorEq, implies_true, ↓reduceIte, Nat.reduceEqDiff, Nat.reduceAdd, Nat.reduceMul, Nat.reduceSub, Nat.reduceLeDiff, Nat.reduceLT, Int.reduceLT, Int.reduceLE, Int.reduceEq, Int.reduceToNat, Int.reduceAdd, Int.reduceSub, Int.reduceNeg, Int.reduceBEq, Int.reduceBNe, Nat.reduceBEq, Int.cast_ofNat_Int, decide_true, decide_false, ne_eq, eq_self_iff_true, beq_eq_false_iff_ne, bne_iff_ne, List.replicate, encFl, encN, *]))))
          all_goals (skip)

        | cons x rest =>
          have hlt := cut_lt he
          have hx := cutD encN he
          simp only [encN] at hx
          simp -implicitDefEqProofs only [SD, SF, SL, e_nf, reduceCtorEq, implies_true, ↓reduceIte, Nat.reduceEqDiff, Nat.reduceAdd, Nat.reduceMul, Nat.reduceSub, Nat.reduceLeDiff, Nat.reduceLT, Int.reduceLT, Int.reduceLE, Int.reduceEq, Int.reduceToNat, Int.reduceAdd, Int.reduceSub, Int.reduceNeg, Int.reduceBEq, Int.reduceBNe, Nat.reduceBEq, Int.cast_ofNat_Int, decide_true, decide_false, ne_eq, eq_self_iff_true, beq_eq_false_iff_ne, bne_iff_ne, List.replicate, encFl, encN, hlt]
          intro hl
          have hw := wrap_len (n := pre.length) (m := (q.nots).length) (cut_lt' he) (by simp only [maxLen]; omega)
          replace he := Hd.mk he
          have hz1 := cut_lt' he.out
          have hlo := nin_len p.nots pre
          have hz2 : p.nots.length + (ninL p.nots pre).length + 1 ≤ maxLen := by simp only [maxLen]; omega
          have hz3 : (p.nots.length + (ninL p.nots pre).length + 1) * 8 ≤ 140737488355328 := by omega
          have hsn := nin_snoc p.nots pre x
          rcases hI with ⟨hp0, rfl⟩ | rfl
          all_goals try replace hp0 := Hd.mk hp0
          all_goals by_cases hw1 : x ∈ p.nots
          iterate 40 (all_goals (try (first
            | ((with_reducible refine back_in rest.length [57, 58, 59, 60, 61, 62, 63, 64, 65, 66, 67, 68, 69, 70, 71, 72, 73, 74, 75, 76, 77, 78, 79, 80, 81, 82] [80] (pre ++ [x], rest, (DV.ow 55, [(55, Blk.vec 30 1 (p.nots.map encN))])) ?_ ⟨?_, ?_, ?_⟩ ?_)
               · simp
               · exact cut_snoc he.out
               · rfl
               · first | (left; refine ⟨?_, rfl⟩; rw [hsn, if_pos hw1]; exact hp0.out) | (right; rw [hsn, if_pos hw1]) | (right; rw [hsn, if_neg hw1, hp0.out]; simp; done) | (right; rw [hsn, if_neg hw1]; simp; done)
               · first | (simp -implicitDefEqProofs only [SD, SF, SL, e_nf, reduceCtorEq, implies_true, ↓reduceIte, Nat.reduceEqDiff, Nat.reduceAdd, Nat.reduceMul, Nat.reduceSub, Nat.reduceLeDiff, Nat.reduceLT, Int.reduceLT, Int.reduceLE, Int.reduceEq, Int.reduceToNat, Int.reduceAdd, Int.reduceSub, Int.reduceNeg, Int.reduceBEq, Int.reduceBNe, Nat.reduceBEq, Int.cast_ofNat_Int, decide_true, decide_false, ne_eq, eq_self_iff_true, beq_eq_false_iff_ne, bne_iff_ne, List.replicate, encFl, encN] <;> simp <;> done) | (simp -implicitDefEqProofs only [SD, SF, SL, e_nf, reduceCtorEq, implies_true, ↓reduceIte, Nat.reduceEqDiff, Nat.reduceAdd, Nat.reduceMul, Nat.reduceSub, Nat.reduceLeDiff, Nat.reduceLT, Int.reduceLT, Int.reduceLE, Int.reduceEq, Int.reduceToNat, Int.reduceAdd, Int.reduceSub, Int.reduceNeg, Int.reduceBEq, Int.reduceBNe, Nat.reduceBEq, Int.cast_ofNat_Int, decide_true, decide_false, ne_eq, eq_self_iff_true, beq_eq_false_iff_ne, bne_iff_ne, List.replicate, encFl, encN, *] <;> simp_all <;> done))
            | ((with_reducible refine back_in rest.length [57, 58, 59, 60, 61, 62, 63, 64, 65, 66, 67, 68, 69, 70, 71, 72, 73, 74, 75, 76, 77, 78, 79, 80, 81, 82] [80] (pre ++ [x], rest, (DV.ow 81, [(81, Blk.vec 30 1 ((p.nots ++ ninL p.nots pre).map encN))])) ?_ ⟨?_, ?_, ?_⟩ ?_)
               · simp
               · exact cut_snoc he.out
               · rfl
               · first | (left; refine ⟨?_, rfl⟩; rw [hsn, if_pos hw1]; exact hp0.out) | (right; rw [hsn, if_pos hw1]) | (right; rw [hsn, if_neg hw1, hp0.out]; simp; done) | (right; rw [hsn, if_neg hw1]; simp; done)
               · first | (simp -implicitDefEqProofs only [SD, SF, SL, e_nf, reduceCtorEq, implies_true, ↓reduceIte, Nat.reduceEqDiff, Nat.reduceAdd, Nat.reduceMul, Nat.reduceSub, Nat.reduceLeDiff, Nat.reduceLT, Int.reduceLT, Int.reduceLE, Int.reduceEq, Int.reduceToNat, Int.reduceAdd, Int.reduceSub, Int.reduceNeg, Int.reduceBEq, Int.reduceBNe, Nat.reduceBEq, Int.cast_ofNat_Int, decide_true, decide_false, ne_eq, eq_self_iff_true, beq_eq_false_iff_ne, bne_iff_ne, List.replicate, encFl, encN] <;> simp <;> done) | (simp -implicitDefEqProofs only [SD, SF, SL, e_nf, reduceCtorEq, implies_true, ↓reduceIte, Nat.reduceEqDiff, Nat.reduceAdd, Nat.reduceMul, Nat.reduceSub, Nat.reduceLeDiff, Nat.reduceLT, Int.reduceLT, Int.reduceLE, Int.reduceEq, Int.reduceToNat, Int.reduceAdd, Int.reduceSub, Int.reduceNeg, Int.reduceBEq, Int.reduceBNe, Nat.reduceBEq, Int.cast_ofNat_Int, decide_true, decide_false, ne_eq, eq_self_iff_true, beq_eq_false_iff_ne, bne_iff_ne, List.replicate, encFl, encN, *] <;> simp_all <;> done))
            | ((with_reducible refine back_in rest.length [57, 58, 59, 60, 61, 62, 63, 64, 65, 66, 67, 68, 69, 70, 71, 72, 73, 74, 75, 76, 77, 78, 79, 80, 81, 82] [80] (pre ++ [x], rest, (DV.ow 81, [(81, Blk.vec 30 1 ((p.nots ++ ninL p.nots pre).map encN ++ [encN x]))])) ?_ ⟨?_, ?_, ?_⟩ ?_)
               · simp
               · exact cut_snoc he.out
               · rfl
               · first | (left; refine ⟨?_, rfl⟩; rw [hsn, if_pos hw1]; exact hp0.out) | (right; rw [hsn, if_pos hw1]) | (right; rw [hsn, if_neg hw1, hp0.out]; simp; done) | (right; rw [hsn, if_neg hw1]; simp; done)
               · first | (simp -implicitDefEqProofs only [SD, SF, SL, e_nf, reduceCtorEq, implies_true, ↓reduceIte, Nat.reduceEqDiff, Nat.reduceAdd, Nat.reduceMul, Nat.reduceSub, Nat.reduceLeDiff, Nat.reduceLT, Int.reduceLT, Int.reduceLE, Int.reduceEq, Int.reduceToNat, Int.reduceAdd, Int.reduceSub, Int.reduceNeg, Int.reduceBEq, Int.reduceBNe, Nat.reduceBEq, Int.cast_ofNat_Int, decide_true, decide_false, ne_eq, eq_self_iff_true, beq_eq_false_iff_ne, bne_iff_ne, List.replicate, encFl, encN] <;> simp <;> done) | (simp -implicitDefEqProofs only [SD, SF, SL, e_nf, reduceCtorEq, implies_true, ↓reduceIte, Nat.reduceEqDiff, Nat.reduceAdd, Nat.reduceMul, Nat.reduceSub, Nat.reduceLeDiff, Nat.reduceLT, Int.reduceLT, Int.reduceLE, Int.reduceEq, Int.reduceToNat, Int.reduceAdd, Int.reduceSub, Int.reduceNeg, Int.reduceBEq, Int.reduceBNe, Nat.reduceBEq, Int.cast_ofNat_Int, decide_true, decide_false, ne_eq, eq_self_iff_true, beq_eq_false_iff_ne, bne_iff_ne, List.replicate, encFl, encN, *] <;> simp_all <;> done))
            | ((with_reducible refine back_in rest.length [57, 58, 59, 60, 61, 62, 63, 64, 65, 66, 67, 68, 69, 70, 71, 72, 73, 74, 75, 76, 77, 78, 79, 80, 81, 82] [80] (pre ++ [x], rest, (DV.ow 81, [(81, Blk.vec 30 1 (p.nots.map encN ++ [encN x]))])) ?_ ⟨?_, ?_, ?_⟩ ?_)
               · simp
               · exact cut_snoc he.out
               · rfl
               · first | (left; refine ⟨?_, rfl⟩; rw [hsn, if_pos hw1]; exact hp0.out) | (right; rw [hsn, if_pos hw1]) | (right; rw [hsn, if_neg hw1, hp0.out]; simp; done) | (right; rw [hsn, if_neg hw1]; simp; done)
               · first | (simp -implicitDefEqProofs only [SD, SF, SL, e_nf, reduceCtorEq, implies_true, ↓reduceIte, Nat.reduceEqDiff, Nat.reduceAdd, Nat.reduceMul, Nat.reduceSub, Nat.reduceLeDiff, Nat.reduceLT, Int.reduceLT, Int.reduceLE, Int.reduceEq, Int.reduceToNat, Int.reduceAdd, Int.reduceSub, Int.reduceNeg, Int.reduceBEq, Int.reduceBNe, Nat.reduceBEq, Int.cast_ofNat_Int, decide_true, decide_false, ne_eq, eq_self_iff_true, beq_eq_false_iff_ne, bne_iff_ne, List.replicate, encFl, encN] <;> simp <;> done) | (simp -implicitDefEqProofs only [SD, SF, SL, e_nf, reduceCtorEq, implies_true, ↓reduceIte, Nat.reduceEqDiff, Nat.reduceAdd, Nat.reduceMul, Nat.reduceSub, Nat.reduceLeDiff, Nat.reduceLT, Int.reduceLT, Int.reduceLE, Int.reduceEq, Int.reduceToNat, Int.reduceAdd, Int.reduceSub, Int.reduceNeg, Int.reduceBEq, Int.reduceBNe, Nat.reduceBEq, Int.cast_ofNat_Int, decide_true, decide_false, ne_eq, eq_self_iff_true, beq_eq_false_iff_ne, bne_iff_ne, List.replicate, encFl, encN, *] <;> simp_all <;> done))
            | ((with_reducible refine of_kSpec ?_); refine call_fz (spec36 p.nots x) rfl ?_)
            | ((with_reducible refine of_kSpec ?_); refine call_fz (spec48) rfl ?_)
            | (with_reducible refine ite_in (fun _ => ?_) (fun _ => ?_))
            | (with_reducible refine ⟨fun _ => ?_, fun _ => ?_⟩)
            | (with_reducible refine And.intro ?_ ?_)
            | (with_reducible intro _)
            | (with_reducible exact is_in _)
            | (simp -implicitDefEqProofs only [SD, SF, SL, e_nf, reduceCtorEq, implies_true, ↓reduceIte, Nat.reduceEqDiff, Nat.reduceAdd, Nat.reduceMul, Nat.reduceSub, Nat.reduceLeDiff, Nat.reduceLT, Int.reduceLT, Int.reduceLE, Int.reduceEq, Int.reduceToNat, Int.reduceAdd, Int.reduceSub, Int.reduceNeg, Int.reduceBEq, Int.reduceBNe, Nat.reduceBEq, Int.cast_ofNat_Int, decide_true, decide_false, ne_eq, eq_self_iff_true, beq_eq_false_iff_ne, bne_iff_ne, List.replicate, encFl, encN, *]))))
          all_goals (first | omega | (simp only [maxLen, List.length_append, List.length_map, List.length_cons, List.length_nil] <;> omega) | (simp_all; done))
  case true =>
    by_cases hm : q.limit < p.limit
    case pos =>
      have hm0 : (q.limit < p.limit) := hm
      refine seq_is ?S1truepos ?h1_1truepos ?h2_1truepos
      case h1_1truepos =>
          iterate 4 (all_goals (try (first
            | (with_reducible refine ite_in (fun _ => ?_) (fun _ => ?_))
            | (with_reducible refine ⟨fun _ => ?_, fun _ => ?_⟩)
            | (with_reducible refine And.intro ?_ ?_)
            | (with_reducible intro _)
            | (with_reducible exact is_in _)
            | (simp -implicitDefEqProofs only [SD, SF, SL, e_nf, reduceCtorEq, implies_true, ↓reduceIte, Nat.reduceEqDiff, Nat.reduceAdd, Nat.reduceMul, Nat.reduceSub, Nat.reduceLeDiff, Nat.reduceLT, Int.reduceLT, Int.reduceLE, Int.reduceEq, Int.reduceToNat, Int.reduceAdd, Int.reduceSub, Int.reduceNeg, Int.reduceBEq, Int.reduceBNe, Nat.reduceBEq, Int.cast_ofNat_Int, decide_true, decide_false, ne_eq, eq_self_iff_true, beq_eq_false_iff_ne, bne_iff_ne, List.replicate, encFl, *]))))
      iterate 14 (all_goals (try (first
        | ((with_reducible refine of_kSpec ?_); refine call_fz (spec46 p.kinds q.kinds h1 g1) rfl ?_)
        | ((with_reducible refine of_kSpec ?_); refine call_fz (spec47 p.senders q.senders h3 g3) rfl ?_)
        | (with_reducible refine ite_in (fun _ => ?_) (fun _ => ?_))
        | (with_reducible refine ⟨fun _ => ?_, fun _ => ?_⟩)
        | (with_reducible refine And.intro ?_ ?_)
        | (with_reducible intro _)
        | (with_reducible exact is_in _)
        | (simp -implicitDefEqProofs only [SD, SF, SL, e_nf, reduceCtorEq, implies_true, ↓reduceIte, Nat.reduceEqDiff, Nat.reduceAdd, Nat.reduceMul, Nat.reduceSub, Nat.reduceLeDiff, Nat.reduceLT, Int.reduceLT, Int.reduceLE, Int.reduceEq, Int.reduceToNat, Int.reduceAdd, Int.reduceSub, Int.reduceNeg, Int.reduceBEq, Int.reduceBNe, Nat.reduceBEq, Int.cast_ofNat_Int, decide_true, decide_false, ne_eq, eq_self_iff_true, beq_eq_false_iff_ne, bne_iff_ne, List.replicate, encFl, *]))))
      refine loop_r (X := List Int × List Int × (DV × List (Nat × Blk))) (fun n x => q.nots = x.1 ++ x.2.1 ∧ n = x.2.1.length ∧ ((ninL p.nots x.1 = [] ∧ x.2.2 = (DV.ow 55, [(55, Blk.vec 30 1 (p.nots.map encN))])) ∨ x.2.2 = (DV.ow 81, [(81, Blk.vec 30 1 ((p.nots ++ ninL p.nots x.1).map encN))]))) (fun x => [(10, .int .i64 x.1.length)]) (fun x => [(5, Blk.box [.ow 46, x.2.2.1, .ow 49, .int .i64 q.limit, .bool true])] ++ x.2.2.2) [57, 58, 59, 60, 61, 62, 63, 64, 65, 66, 67, 68, 69, 70, 71, 72, 73, 74, 75, 76, 77, 78, 79, 80, 81, 82] [5, 55, 80, 81] [80] (q.nots).length ([], q.nots, (DV.ow 55, [(55, Blk.vec 30 1 (p.nots.map encN))])) ⟨rfl, rfl, by exact .inl ⟨rfl, rfl⟩⟩ ?_ ?_
      · simp -implicitDefEqProofs only [SD, SF, SL, e_nf, reduceCtorEq, implies_true, ↓reduceIte, Nat.reduceEqDiff, Nat.reduceAdd, Nat.reduceMul, Nat.reduceSub, Nat.reduceLeDiff, Nat.reduceLT, Int.reduceLT, Int.reduceLE, Int.reduceEq, Int.reduceToNat, Int.reduceAdd, Int.reduceSub, Int.reduceNeg, Int.reduceBEq, Int.reduceBNe, Nat.reduceBEq, Int.cast_ofNat_Int, decide_true, decide_false, ne_eq, eq_self_iff_true, beq_eq_false_iff_ne, bne_iff_ne, List.replicate, encFl, encN] <;> simp
      · rintro n ⟨pre, rest, a⟩ ⟨he, rfl, hI⟩
        dsimp only at he hI
        cases rest with
        | nil =>
          obtain rfl : q.nots = pre := by simpa using he
          clear he
          have hlt : ¬ (((q.nots).length : Int) < ((q.nots).length : Int)) := Int.lt_irrefl _
          rcases hI with ⟨hl0, rfl⟩ | rfl
          all_goals try replace hl0 := Hd.mk hl0
          all_goals have hand : andL p q = (if (!(bothE p.kinds q.kinds).2 || !(bothE p.senders q.senders).2) = true then ⟨everyL, everyL, (bothE p.senders q.senders).1, minI p.limit q.limit, p.lzy || q.lzy⟩ else ⟨(bothE p.kinds q.kinds).1, p.nots ++ ninL p.nots q.nots, (bothE p.senders q.senders).1, minI p.limit q.limit, p.lzy || q.lzy⟩) := rfl
          all_goals by_cases hk : (bothE p.kinds q.kinds).2 = true
          all_goals by_cases hs : (bothE p.senders q.senders).2 = true
          all_goals try (replace hk : (bothE p.kinds q.kinds).2 = false := by simpa using hk)
          all_goals try (replace hs : (bothE p.senders q.senders).2 = false := by simpa using hs)
          all_goals rw [hk, hs] at hand
          all_goals simp only [Bool.not_true, Bool.not_false, Bool.or_true, Bool.or_false, Bool.true_or, Bool.false_or, Bool.false_eq_true, if_true, if_false, ↓reduceIte, hz, minI, hm] at hand
          all_goals try (rw [hl0.out, List.append_nil] at hand)
          iterate 40 (all_goals (try (first
            | ((with_reducible refine of_kSpec ?_); refine call_fz (spec36 p.nots x) rfl ?_)
            | ((with_reducible refine of_kSpec ?_); refine call_fz (spec48) rfl ?_)
            | (with_reducible refine ite_in (fun _ => ?_) (fun _ => ?_))
            | (with_reducible refine ⟨fun _ => ?_, fun _ => ?_⟩)
            | (with_reducible refine And.intro ?_ ?_)
            | (with_reducible intro _)
            | (with_reducible exact is_in _)
            | (simp -implicitDefEqProofs only [SD, SF, SL, e_nf, reduceCtorEq, implies_true, ↓reduceIte, Nat.reduceEqDiff, Nat.reduceAdd, Nat.reduceMul, Nat.reduceSub, Nat.reduceLeDiff, Nat.reduceLT, Int.reduceLT, Int.reduceLE, Int.reduceEq, Int.reduceToNat, Int.reduceAdd, Int.reduceSub, Int.reduceNeg, Int.reduceBEq, Int.reduceBNe, Nat.reduceBEq, Int.cast_ofNat_Int, decide_true, decide_false, ne_eq, eq_self_iff_true, beq_eq_false_iff_ne, bne_iff_ne, List.replicate, encFl, encN, *]))))
          all_goals (skip)

        | cons x rest =>
          have hlt := cut_lt he
          have hx := cutD encN he
          simp only [encN] at hx
          simp -implicitDefEqProofs only [SD, SF, SL, e_nf, reduceCtorEq, implies_true, ↓reduceIte, Nat.reduceEqDiff, Nat.reduceAdd, Nat.reduceMul, Nat.reduceSub, Nat.reduceLeDiff, Nat.reduceLT, Int.reduceLT, Int.reduceLE, Int.reduceEq, Int.reduceToNat, Int.reduceAdd, Int.reduceSub, Int.reduceNeg, Int.reduceBEq, Int.reduceBNe, Nat.reduceBEq, Int.cast_ofNat_Int, decide_true, decide_false, ne_eq, eq_self_iff_true, beq_eq_false_iff_ne, bne_iff_ne, List.replicate, encFl, encN, hlt]
          intro hl
          have hw := wrap_len (n := pre.length) (m := (q.nots).length) (cut_lt' he) (by simp only [maxLen]; omega)
          replace he := Hd.mk he
          have hz1 := cut_lt' he.out
          have hlo := nin_len p.nots pre
          have hz2 : p.nots.length + (ninL p.nots pre).length + 1 ≤ maxLen := by simp only [maxLen]; omega
          have hz3 : (p.nots.length + (ninL p.nots pre).length + 1) * 8 ≤ 140737488355328 := by omega
          have hsn := nin_snoc p.nots pre x
          rcases hI with ⟨hp0, rfl⟩ | rfl
          all_goals try replace hp0 := Hd.mk hp0
          all_goals by_cases hw1 : x ∈ p.nots
          iterate 40 (all_goals (try (first
            | ((with_reducible refine back_in rest.length [57, 58, 59, 60, 61, 62, 63, 64, 65, 66, 67, 68, 69, 70, 71, 72, 73, 74, 75, 76, 77, 78, 79, 80, 81, 82] [80] (pre ++ [x], rest, (DV.ow 55, [(55, Blk.vec 30 1 (p.nots.map encN))])) ?_ ⟨?_, ?_, ?_⟩ ?_)
               · simp
               · exact cut_snoc he.out
               · rfl
               · first | (left; refine ⟨?_, rfl⟩; rw [hsn, if_pos hw1]; exact hp0.out) | (right; rw [hsn, if_pos hw1]) | (right; rw [hsn, if_neg hw1, hp0.out]; simp; done) | (right; rw [hsn, if_neg hw1]; simp; done)
               · first | (simp -implicitDefEqProofs only [SD, SF, SL, e_nf, reduceCtorEq, implies_true, ↓reduceIte, Nat.reduceEqDiff, Nat.reduceAdd, Nat.reduceMul, Nat.reduceSub, Nat.reduceLeDiff, Nat.reduceLT, Int.reduceLT, Int.reduceLE, Int.reduceEq, Int.reduceToNat, Int.reduceAdd, Int.reduceSub, Int.reduceNeg, Int.reduceBEq, Int.reduceBNe, Nat.reduceBEq, Int.cast_ofNat_Int, decide_true, decide_false, ne_eq, eq_self_iff_true, beq_eq_false_iff_ne, bne_iff_ne, List.replicate, encFl, encN] <;> simp <;> done) | (simp -implicitDefEqProofs only [SD, SF, SL, e_nf, reduceCtorEq, implies_true, ↓reduceIte, Nat.reduceEqDiff, Nat.reduceAdd, Nat.reduceMul, Nat.reduceSub, Nat.reduceLeDiff, Nat.reduceLT, Int.reduceLT, Int.reduceLE, Int.reduceEq, Int.reduceToNat, Int.reduceAdd, Int.reduceSub, Int.reduceNeg, Int.reduceBEq, Int.reduceBNe, Nat.reduceBEq, Int.cast_ofNat_Int, decide_true, decide_false, ne_eq, eq_self_iff_true, beq_eq_false_iff_ne, bne_iff_ne, List.replicate, encFl, encN, *] <;> simp_all <;> done))
            | ((with_reducible refine back_in rest.length [57, 58, 59, 60, 61, 62, 63, 64, 65, 66, 67, 68, 69, 70, 71, 72, 73, 74, 75, 76, 77, 78, 79, 80, 81, 82] [80] (pre ++ [x], rest, (DV.ow 81, [(81, Blk.vec 30 1 ((p.nots ++ ninL p.nots pre).map encN))])) ?_ ⟨?_, ?_, ?_⟩ ?_)
               · simp
               · exact cut_snoc he.out
               · rfl
               · first | (left; refine ⟨?_, rfl⟩; rw [hsn, if_pos hw1]; exact hp0.out) | (right; rw [hsn, if_pos hw1]) | (right; rw [hsn, if_neg hw1, hp0.out]; simp; done) | (right; rw [hsn, if_neg hw1]; simp; done)
               · first | (simp -implicitDefEqProofs only [SD, SF, SL, e_nf, reduceCtorEq, implies_true, ↓reduceIte, Nat.reduceEqDiff, Nat.reduceAdd, Nat.reduceMul, Nat.reduceSub, Nat.reduceLeDiff, Nat.reduceLT, Int.reduceLT, Int.reduceLE, Int.reduceEq, Int.reduceToNat, Int.reduceAdd, Int.reduceSub, Int.reduceNeg, Int.reduceBEq, Int.reduceBNe, Nat.reduceBEq, Int.cast_ofNat_Int, decide_true, decide_false, ne_eq, eq_self_iff_true, beq_eq_false_iff_ne, bne_iff_ne, List.replicate, encFl, encN] <;> simp <;> done) | (simp -implicitDefEqProofs only [SD, SF, SL, e_nf, reduceCtorEq, implies_true, ↓reduceIte, Nat.reduceEqDiff, Nat.reduceAdd, Nat.reduceMul, Nat.reduceSub, Nat.reduceLeDiff, Nat.reduceLT, Int.reduceLT, Int.reduceLE, Int.reduceEq, Int.reduceToNat, Int.reduceAdd, Int.reduceSub, Int.reduceNeg, Int.reduceBEq, Int.reduceBNe, Nat.reduceBEq, Int.cast_ofNat_Int, decide_true, decide_false, ne_eq, eq_self_iff_true, beq_eq_false_iff_ne, bne_iff_ne, List.replicate, encFl, encN, *] <;> simp_all <;> done))
            | ((with_reducible refine back_in rest.length [57, 58, 59, 60, 61, 62, 63, 64, 65, 66, 67, 68, 69, 70, 71, 72, 73, 74, 75, 76, 77, 78, 79, 80, 81, 82] [80] (pre ++ [x], rest, (DV.ow 81, [(81, Blk.vec 30 1 ((p.nots ++ ninL p.nots pre).map encN ++ [encN x]))])) ?_ ⟨?_, ?_, ?_⟩ ?_)
               · simp
               · exact cut_snoc he.out
               · rfl
               · first | (left; refine ⟨?_, rfl⟩; rw [hsn, if_pos hw1]; exact hp0.out) | (right; rw [hsn, if_pos hw1]) | (right; rw [hsn, if_neg hw1, hp0.out]; simp; done) | (right; rw [hsn, if_neg hw1]; simp; done)
               · first | (simp -implicitDefEqProofs only [SD, SF, SL, e_nf, reduceCtorEq, implies_true, ↓reduceIte, Nat.reduceEqDiff, Nat.reduceAdd, Nat.reduceMul, Nat.reduceSub, Nat.reduceLeDiff, Nat.reduceLT, Int.reduceLT, Int.reduceLE, Int.reduceEq, Int.reduceToNat, Int.reduceAdd, Int.reduceSub, Int.reduceNeg, Int.reduceBEq, Int.reduceBNe, Nat.reduceBEq, Int.cast_ofNat_Int, decide_true, decide_false, ne_eq, eq_self_iff_true, beq_eq_false_iff_ne, bne_iff_ne, List.replicate, encFl, encN] <;> simp <;> done) | (simp -implicitDefEqProofs only [SD, SF, SL, e_nf, reduceCtorEq, implies_true, ↓reduceIte, Nat.reduceEqDiff, Nat.reduceAdd, Nat.reduceMul, Nat.reduceSub, Nat.reduceLeDiff, Nat.reduceLT, Int.reduceLT, Int.reduceLE, Int.reduceEq, Int.reduceToNat, Int.reduceAdd, Int.reduceSub, Int.reduceNeg, Int.reduceBEq, Int.reduceBNe, Nat.reduceBEq, Int.cast_ofNat_Int, decide_true, decide_false, ne_eq, eq_self_iff_true, beq_eq_false_iff_ne, bne_iff_ne, List.replicate, encFl, encN, *] <;> simp_all <;> done))
            | ((with_reducible refine back_in rest.length [57, 58, 59, 60, 61, 62, 63, 64, 65, 66, 67, 68, 69, 70, 71, 72, 73, 74, 75, 76, 77, 78, 79, 80, 81, 82] [80] (pre ++ [x], rest, (DV.ow 81, [(81, Blk.vec 30 1 (p.nots.map encN ++ [encN x]))])) ?_ ⟨?_, ?_, ?_⟩ ?_)
               · simp
               · exact cut_snoc he.out
               · rfl
               · first | (left; refine ⟨?_, rfl⟩; rw [hsn, if_pos hw1]; exact hp0.out) | (right; rw [hsn, if_pos hw1]) | (right; rw [hsn, if_neg hw1, hp0.out]; simp; done) | (right; rw [hsn, if_neg hw1]; simp; done)
               · first | (simp -implicitDefEqProofs only [SD, SF, SL, e_nf, reduceCtorEq, implies_true, ↓reduceIte, Nat.reduceEqDiff, Nat.reduceAdd, Nat.reduceMul, Nat.reduceSub, Nat.reduceLeDiff, Nat.reduceLT, Int.reduceLT, Int.reduceLE, Int.reduceEq, Int.reduceToNat, Int.reduceAdd, Int.reduceSub, Int.reduceNeg, Int.reduceBEq, Int.reduceBNe, Nat.reduceBEq, Int.cast_ofNat_Int, decide_true, decide_false, ne_eq, eq_self_iff_true, beq_eq_false_iff_ne, bne_iff_ne, List.replicate, encFl, encN] <;> simp <;> done) | (simp -implicitDefEqProofs only [SD, SF, SL, e_nf, reduceCtorEq, implies_true, ↓reduceIte, Nat.reduceEqDiff, Nat.reduceAdd, Nat.reduceMul, Nat.reduceSub, Nat.reduceLeDiff, Nat.reduceLT, Int.reduceLT, Int.reduceLE, Int.reduceEq, Int.reduceToNat, Int.reduceAdd, Int.reduceSub, Int.reduceNeg, Int.reduceBEq, Int.reduceBNe, Nat.reduceBEq, Int.cast_ofNat_Int, decide_true, decide_false, ne_eq, eq_self_iff_true, beq_eq_false_iff_ne, bne_iff_ne, List.replicate, encFl, encN, *] <;> simp_all <;> done))
            | ((with_reducible refine of_kSpec ?_); refine call_fz (spec36 p.nots x) rfl ?_)
            | ((with_reducible refine of_kSpec ?_); refine call_fz (spec48) rfl ?_)
            | (with_reducible refine ite_in (fun _ => ?_) (fun _ => ?_))
            | (with_reducible refine ⟨fun _ => ?_, fun _ => ?_⟩)
            | (with_reducible refine And.intro ?_ ?_)
            | (with_reducible intro _)
            | (with_reducible exact is_in _)
            | (simp -implicitDefEqProofs only [SD, SF, SL, e_nf, reduceCtorEq, implies_true, ↓reduceIte, Nat.reduceEqDiff, Nat.reduceAdd, Nat.reduceMul, Nat.reduceSub, Nat.reduceLeDiff, Nat.reduceLT, Int.reduceLT, Int.reduceLE, Int.reduceEq, Int.reduceToNat, Int.reduceAdd, Int.reduceSub, Int.reduceNeg, Int.reduceBEq, Int.reduceBNe, Nat.reduceBEq, Int.cast_ofNat_Int, decide_true, decide_false, ne_eq, eq_self_iff_true, beq_eq_false_iff_ne, bne_iff_ne, List.replicate, encFl, encN, *]))))
          all_goals (first | omega | (simp only [maxLen, List.length_append, List.length_map, List.length_cons, List.length_nil] <;> omega) | (simp_all; done))
    case neg =>
      have hm0 : ¬ (q.limit < p.limit) := hm
      refine seq_is ?S1trueneg ?h1_1trueneg ?h2_1trueneg
      case h1_1trueneg =>
          iterate 4 (all_goals (try (first
            | (with_reducible refine ite_in (fun _ => ?_) (fun _ => ?_))
            | (with_reducible refine ⟨fun _ => ?_, fun _ => ?_⟩)
            | (with_reducible refine And.intro ?_ ?_)
            | (with_reducible intro _)
            | (with_reducible exact is_in _)
            | (simp -implicitDefEqProofs only [SD, SF, SL, e_nf, reduceCtorEq, implies_true, ↓reduceIte, Nat.reduceEqDiff, Nat.reduceAdd, Nat.reduceMul, Nat.reduceSub, Nat.reduceLeDiff, Nat.reduceLT, Int.reduceLT, Int.reduceLE, Int.reduceEq, Int.reduceToNat, Int.reduceAdd, Int.reduceSub, Int.reduceNeg, Int.reduceBEq, Int.reduceBNe, Nat.reduceBEq, Int.cast_ofNat_Int, decide_true, decide_false, ne_eq, eq_self_iff_true, beq_eq_false_iff_ne, bne_iff_ne, List.replicate, encFl, *]))))
      iterate 14 (all_goals (try (first
        | ((with_reducible refine of_kSpec ?_); refine call_fz (spec46 p.kinds q.kinds h1 g1) rfl ?_)
        | ((with_reducible refine of_kSpec ?_); refine call_fz (spec47 p.senders q.senders h3 g3) rfl ?_)
        | (with_reducible refine ite_in (fun _ => ?_) (fun _ => ?_))
        | (with_reducible refine ⟨fun _ => ?_, fun _ => ?_⟩)
        | (with_reducible refine And.intro ?_ ?_)
        | (with_reducible intro _)
        | (with_reducible exact is_in _)
        | (simp -implicitDefEqProofs only [SD, SF, SL, e_nf, reduceCtorEq, implies_true, ↓reduceIte, Nat.reduceEqDiff, Nat.reduceAdd, Nat.reduceMul, Nat.reduceSub, Nat.reduceLeDiff, Nat.reduceLT, Int.reduceLT, Int.reduceLE, Int.reduceEq, Int.reduceToNat, Int.reduceAdd, Int.reduceSub, Int.reduceNeg, Int.reduceBEq, Int.reduceBNe, Nat.reduceBEq, Int.cast_ofNat_Int, decide_true, decide_false, ne_eq, eq_self_iff_true, beq_eq_false_iff_ne, bne_iff_ne, List.replicate, encFl, *]))))
      refine loop_r (X := List Int × List Int × (DV × List (Nat × Blk))) (fun n x => q.nots = x.1 ++ x.2.1 ∧ n = x.2.1.length ∧ ((ninL p.nots x.1 = [] ∧ x.2.2 = (DV.ow 55, [(55, Blk.vec 30 1 (p.nots.map encN))])) ∨ x.2.2 = (DV.ow 81, [(81, Blk.vec 30 1 ((p.nots ++ ninL p.nots x.1).map encN))]))) (fun x => [(10, .int .i64 x.1.length)]) (fun x => [(5, Blk.box [.ow 46, x.2.2.1, .ow 49, .int .i64 p.limit, .bool true])] ++ x.2.2.2) [57, 58, 59, 60, 61, 62, 63, 64, 65, 66, 67, 68, 69, 70, 71, 72, 73, 74, 75, 76, 77, 78, 79, 80, 81, 82] [5, 55, 80, 81] [80] (q.nots).length ([], q.nots, (DV.ow 55, [(55, Blk.vec 30 1 (p.nots.map encN))])) ⟨rfl, rfl, by exact .inl ⟨rfl, rfl⟩⟩ ?_ ?_
      · simp -implicitDefEqProofs only [SD, SF, SL, e_nf, reduceCtorEq, implies_true, ↓reduceIte, Nat.reduceEqDiff, Nat.reduceAdd, Nat.reduceMul, Nat.reduceSub, Nat.reduceLeDiff, Nat.reduceLT, Int.reduceLT, Int.reduceLE, Int.reduceEq, Int.reduceToNat, Int.reduceAdd, Int.reduceSub, Int.reduceNeg, Int.reduceBEq, Int.reduceBNe, Nat.reduceBEq, Int.cast_ofNat_Int, decide_true, decide_false, ne_eq, eq_self_iff_true, beq_eq_false_iff_ne, bne_iff_ne, List.replicate, encFl, encN] <;> simp
      · rintro n ⟨pre, rest, a⟩ ⟨he, rfl, hI⟩
        dsimp only at he hI
        cases rest with
        | nil =>
          obtain rfl : q.nots = pre := by simpa using he
          clear he
          have hlt : ¬ (((q.nots).length : Int) < ((q.nots).length : Int)) := Int.lt_irrefl _
          rcases hI with ⟨hl0, rfl⟩ | rfl
          all_goals try replace hl0 := Hd.mk hl0
          all_goals have hand : andL p q = (if (!(bothE p.kinds q.kinds).2 || !(bothE p.senders q.senders).2) = true then ⟨everyL, everyL, (bothE p.senders q.senders).1, minI p.limit q.limit, p.lzy || q.lzy⟩ else ⟨(bothE p.kinds q.kinds).1, p.nots ++ ninL p.nots q.nots, (bothE p.senders q.senders).1, minI p.limit q.limit, p.lzy || q.lzy⟩) := rfl
          all_goals by_cases hk : (bothE p.kinds q.kinds).2 = true
          all_goals by_cases hs : (bothE p.senders q.senders).2 = true
          all_goals try (replace hk : (bothE p.kinds q.kinds).2 = false := by simpa using hk)
          all_goals try (replace hs : (bothE p.senders q.senders).2 = false := by simpa using hs)
          all_goals rw [hk, hs] at hand
          all_goals simp only [Bool.not_true, Bool.not_false, Bool.or_true, Bool.or_false, Bool.true_or, Bool.false_or, Bool.false_eq_true, if_true, if_false, ↓reduceIte, hz, minI, hm] at hand
          all_goals try (rw [hl0.out, List.append_nil] at hand)
          iterate 40 (all_goals (try (first
            | ((with_reducible refine of_kSpec ?_); refine call_fz (spec36 p.nots x) rfl ?_)
            | ((with_reducible refine of_kSpec ?_); refine call_fz (spec48) rfl ?_)
            | (with_reducible refine ite_in (fun _ => ?_) (fun _ => ?_))
            | (with_reducible refine ⟨fun _ => ?_, fun _ => ?_⟩)
            | (with_reducible refine And.intro ?_ ?_)
            | (with_reducible intro _)
            | (with_reducible exact is_in _)
            | (simp -implicitDefEqProofs only [SD, SF, SL, e_nf, reduceCtorEq, implies_true, ↓reduceIte, Nat.reduceEqDiff, Nat.reduceAdd, Nat.reduceMul, Nat.reduceSub, Nat.reduceLeDiff, Nat.reduceLT, Int.reduceLT, Int.reduceLE, Int.reduceEq, Int.reduceToNat, Int.reduceAdd, Int.reduceSub, Int.reduceNeg, Int.reduceBEq, Int.reduceBNe, Nat.reduceBEq, Int.cast_ofNat_Int, decide_true, decide_false, ne_eq, eq_self_iff_true, beq_eq_false_iff_ne, bne_iff_ne, List.replicate, encFl, encN, *]))))
          all_goals (skip)

        | cons x rest =>
          have hlt := cut_lt he
          have hx := cutD encN he
          simp only [encN] at hx
          simp -implicitDefEqProofs only [SD, SF, SL, e_nf, reduceCtorEq, implies_true, ↓reduceIte, Nat.reduceEqDiff, Nat.reduceAdd, Nat.reduceMul, Nat.reduceSub, Nat.reduceLeDiff, Nat.reduceLT, Int.reduceLT, Int.reduceLE, Int.reduceEq, Int.reduceToNat, Int.reduceAdd, Int.reduceSub, Int.reduceNeg, Int.reduceBEq, Int.reduceBNe, Nat.reduceBEq, Int.cast_ofNat_Int, decide_true, decide_false, ne_eq, eq_self_iff_true, beq_eq_false_iff_ne, bne_iff_ne, List.replicate, encFl, encN, hlt]
          intro hl
          have hw := wrap_len (n := pre.length) (m := (q.nots).length) (cut_lt' he) (by simp only [maxLen]; omega)
          replace he := Hd.mk he
          have hz1 := cut_lt' he.out
          have hlo := nin_len p.nots pre
          have hz2 : p.nots.length + (ninL p.nots pre).length + 1 ≤ maxLen := by simp only [maxLen]; omega
          have hz3 : (p.nots.length + (ninL p.nots pre).length + 1) * 8 ≤ 140737488355328 := by omega
          have hsn := nin_snoc p.nots pre x
          rcases hI with ⟨hp0, rfl⟩ | rfl
          all_goals try replace hp0 := Hd.mk hp0
          all_goals by_cases hw1 : x ∈ p.nots
          iterate 40 (all_goals (try (first
            | ((with_reducible refine back_in rest.length [57, 58, 59, 60, 61, 62, 63, 64, 65, 66, 67, 68, 69, 70, 71, 72, 73, 74, 75, 76, 77, 78, 79, 80, 81, 82] [80] (pre ++ [x], rest, (DV.ow 55, [(55, Blk.vec 30 1 (p.nots.map encN))])) ?_ ⟨?_, ?_, ?_⟩ ?_)
               · simp
               · exact cut_snoc he.out
               · rfl
               · first | (left; refine ⟨?_, rfl⟩; rw [hsn, if_pos hw1]; exact hp0.out) | (right; rw [hsn, if_pos hw1]) | (right; rw [hsn, if_neg hw1, hp0.out]; simp; done) | (right; rw [hsn, if_neg hw1]; simp; done)
               · first | (simp -implicitDefEqProofs only [SD, SF, SL, e_nf, reduceCtorEq, implies_true, ↓reduceIte, Nat.reduceEqDiff, Nat.reduceAdd, Nat.reduceMul, Nat.reduceSub, Nat.reduceLeDiff, Nat.reduceLT, Int.reduceLT, Int.reduceLE, Int.reduceEq, Int.reduceToNat, Int.reduceAdd, Int.reduceSub, Int.reduceNeg, Int.reduceBEq, Int.reduceBNe, Nat.reduceBEq, Int.cast_ofNat_Int, decide_true, decide_false, ne_eq, eq_self_iff_true, beq_eq_false_iff_ne, bne_iff_ne, List.replicate, encFl, encN] <;> simp <;> done) | (simp -implicitDefEqProofs only [SD, SF, SL, e_nf, reduceCtorEq, implies_true, ↓reduceIte, Nat.reduceEqDiff, Nat.reduceAdd, Nat.reduceMul, Nat.reduceSub, Nat.reduceLeDiff, Nat.reduceLT, Int.reduceLT, Int.reduceLE, Int.reduceEq, Int.reduceToNat, Int.reduceAdd, Int.reduceSub, Int.reduceNeg, Int.reduceBEq, Int.reduceBNe, Nat.reduceBEq, Int.cast_ofNat_Int, decide_true, decide_false, ne_eq, eq_self_iff_true, beq_eq_false_iff_ne, bne_iff_ne, List.replicate, encFl, encN, *] <;> simp_all <;> done))
            | ((with_reducible refine back_in rest.length [57, 58, 59, 60, 61, 62, 63, 64, 65, 66, 67, 68, 69, 70, 71, 72, 73, 74, 75, 76, 77, 78, 79, 80, 81, 82] [80] (pre ++ [x], rest, (DV.ow 81, [(81, Blk.vec 30 1 ((p.nots ++ ninL p.nots pre).map encN))])) ?_ ⟨?_, ?_, ?_⟩ ?_)
               · simp
               · exact cut_snoc he.out
               · rfl
               · first | (left; refine ⟨?_, rfl⟩; rw [hsn, if_pos hw1]; exact hp0.out) | (right; rw [hsn, if_pos hw1]) | (right; rw [hsn, if_neg hw1, hp0.out]; simp; done) | (right; rw [hsn, if_neg hw1]; simp; done)
               · first | (simp -implicitDefEqProofs only [SD, SF, SL, e_nf, reduceCtorEq, implies_true, ↓reduceIte, Nat.reduceEqDiff, Nat.reduceAdd, Nat.reduceMul, Nat.reduceSub, Nat.reduceLeDiff, Nat.reduceLT, Int.reduceLT, Int.reduceLE, Int.reduceEq, Int.reduceToNat, Int.reduceAdd, Int.reduceSub, Int.reduceNeg, Int.reduceBEq, Int.reduceBNe, Nat.reduceBEq, Int.cast_ofNat_Int, decide_true, decide_false, ne_eq, eq_self_iff_true, beq_eq_false_iff_ne, bne_iff_ne, List.replicate, encFl, encN] <;> simp <;> done) | (simp -implicitDefEqProofs only [SD, SF, SL, e_nf, reduceCtorEq, implies_true, ↓reduceIte, Nat.reduceEqDiff, Nat.reduceAdd, Nat.reduceMul, Nat.reduceSub, Nat.reduceLeDiff, Nat.reduceLT, Int.reduceLT, Int.reduceLE, Int.reduceEq, Int.reduceToNat, Int.reduceAdd, Int.reduceSub, Int.reduceNeg, Int.reduceBEq, Int.reduceBNe, Nat.reduceBEq, Int.cast_ofNat_Int, decide_true, decide_false, ne_eq, eq_self_iff_true, beq_eq_false_iff_ne, bne_iff_ne, List.replicate, encFl, encN, *] <;> simp_all <;> done))
            | ((with_reducible refine back_in rest.length [57, 58, 59, 60, 61, 62, 63, 64, 65, 66, 67, 68, 69, 70, 71, 72, 73, 74, 75, 76, 77, 78, 79, 80, 81, 82] [80] (pre ++ [x], rest, (DV.ow 81, [(81, Blk.vec 30 1 ((p.nots ++ ninL p.nots pre).map encN ++ [encN x]))])) ?_ ⟨?_, ?_, ?_⟩ ?_)
               · simp
               · exact cut_snoc he.out
               · rfl
               · first | (left; refine ⟨?_, rfl⟩; rw [hsn, if_pos hw1]; exact hp0.out) | (right; rw [hsn, if_pos hw1]) | (right; rw [hsn, if_neg hw1, hp0.out]; simp; done) | (right; rw [hsn, if_neg hw1]; simp; done)
               · first | (simp -implicitDefEqProofs only [SD, SF, SL, e_nf, reduceCtorEq, implies_true, ↓reduceIte, Nat.reduceEqDiff, Nat.reduceAdd, Nat.reduceMul, Nat.reduceSub, Nat.reduceLeDiff, Nat.reduceLT, Int.reduceLT, Int.reduceLE, Int.reduceEq, Int.reduceToNat, Int.reduceAdd, Int.reduceSub, Int.reduceNeg, Int.reduceBEq, Int.reduceBNe, Nat.reduceBEq, Int.cast_ofNat_Int, decide_true, decide_false, ne_eq, eq_self_iff_true, beq_eq_false_iff_ne, bne_iff_ne, List.replicate, encFl, encN] <;> simp <;> done) | (simp -implicitDefEqProofs only [SD, SF, SL, e_nf, reduceCtorEq, implies_true, ↓reduceIte, Nat.reduceEqDiff, Nat.reduceAdd, Nat.reduceMul, Nat.reduceSub, Nat.reduceLeDiff, Nat.reduceLT, Int.reduceLT, Int.reduceLE, Int.reduceEq, Int.reduceToNat, Int.reduceAdd, Int.reduceSub, Int.reduceNeg, Int.reduceBEq, Int.reduceBNe, Nat.reduceBEq, Int.cast_ofNat_Int, decide_true, decide_false, ne_eq, eq_self_iff_true, beq_eq_false_iff_ne, bne_iff_ne, List.replicate, encFl, encN, *] <;> simp_all <;> done))
            | ((with_reducible refine back_in rest.length [57, 58, 59, 60, 61, 62, 63, 64, 65, 66, 67, 68, 69, 70, 71, 72, 73, 74, 75, 76, 77, 78, 79, 80, 81, 82] [80] (pre ++ [x], rest, (DV.ow 81, [(81, Blk.vec 30 1 (p.nots.map encN ++ [encN x]))])) ?_ ⟨?_, ?_, ?_⟩ ?_)
               · simp
               · exact cut_snoc he.out
               · rfl
               · first | (left; refine ⟨?_, rfl⟩; rw [hsn, if_pos hw1]; exact hp0.out) | (right; rw [hsn, if_pos hw1]) | (right; rw [hsn, if_neg hw1, hp0.out]; simp; done) | (right; rw [hsn, if_neg hw1]; simp; done)
               · first | (simp -implicitDefEqProofs only [SD, SF, SL, e_nf, reduceCtorEq, implies_true, ↓reduceIte, Nat.reduceEqDiff, Nat.reduceAdd, Nat.reduceMul, Nat.reduceSub, Nat.reduceLeDiff, Nat.reduceLT, Int.reduceLT, Int.reduceLE, Int.reduceEq, Int.reduceToNat, Int.reduceAdd, Int.reduceSub, Int.reduceNeg, Int.reduceBEq, Int.reduceBNe, Nat.reduceBEq, Int.cast_ofNat_Int, decide_true, decide_false, ne_eq, eq_self_iff_true, beq_eq_false_iff_ne, bne_iff_ne, List.replicate, encFl, encN] <;> simp <;> done) | (simp -implicitDefEqProofs only [SD, SF, SL, e_nf, reduceCtorEq, implies_true, ↓reduceIte, Nat.reduceEqDiff, Nat.reduceAdd, Nat.reduceMul, Nat.reduceSub, Nat.reduceLeDiff, Nat.reduceLT, Int.reduceLT, Int.reduceLE, Int.reduceEq, Int.reduceToNat, Int.reduceAdd, Int.reduceSub, Int.reduceNeg, Int.reduceBEq, Int.reduceBNe, Nat.reduceBEq, Int.cast_ofNat_Int, decide_true, decide_false, ne_eq, eq_self_iff_true, beq_eq_false_iff_ne, bne_iff_ne, List.replicate, encFl, encN, *] <;> simp_all <;> done))
            | ((with_reducible refine of_kSpec ?_); refine call_fz (spec36 p.nots x) rfl ?_)
            | ((with_reducible refine of_kSpec ?_); refine call_fz (spec48) rfl ?_)
            | (with_reducible refine ite_in (fun _ => ?_) (fun _ => ?_))
            | (with_reducible refine ⟨fun _ => ?_, fun _ => ?_⟩)
            | (with_reducible refine And.intro ?_ ?_)
            | (with_reducible intro _)
            | (with_reducible exact is_in _)
            | (simp -implicitDefEqProofs only [SD, SF, SL, e_nf, reduceCtorEq, implies_true, ↓reduceIte, Nat.reduceEqDiff, Nat.reduceAdd, Nat.reduceMul, Nat.reduceSub, Nat.reduceLeDiff, Nat.reduceLT, Int.reduceLT, Int.reduceLE, Int.reduceEq, Int.reduceToNat, Int.reduceAdd, Int.reduceSub, Int.reduceNeg, Int.reduceBEq, Int.reduceBNe, Nat.reduceBEq, Int.cast_ofNat_Int, decide_true, decide_false, ne_eq, eq_self_iff_true, beq_eq_false_iff_ne, bne_iff_ne, List.replicate, encFl, encN, *]))))
          all_goals (first | omega | (simp only [maxLen, List.length_append, List.length_map, List.length_cons, List.length_nil] <;> omega) | (simp_all; done))


end Go.Proofs.Ytamcbdflmephdaa.E
