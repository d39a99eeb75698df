/-
  The parts of the law's function.
-/
import Derived.Test.YthackanfbemabaaRg
import Derived.Test.YthackanfbemabaaProg
import Derived.KernelRfl
import Derived.Test.YthackanfbemabaaEngZ
import Derived.Test.YthackanfbemabaaRaE
set_option linter.unusedVariables false
set_option linter.unusedSimpArgs false
namespace Go.Proofs.Ythackanfbemabaa.E
open Go
def sqL : Code → Code
  | .seq a _ => a
  | c => c
def sqR : Code → Code
  | .seq _ b => b
  | c => c
def rgO : Code → Array Oper
  | .region _ ops _ => ops
  | _ => #[]
def t3 (b : Code) : Code := sqR (sqR (sqR b))
def pA0 (b : Code) : Code := sqL b
def pA1 (b : Code) : Code := sqL (sqR b)
def pA2 (b : Code) : Code := sqL (sqR (sqR b))
def pR1 (b : Code) : Code := sqL (t3 b)
def pC (b : Code) : Code := sqL (sqR (t3 b))
def pD (b : Code) : Code := sqL (sqR (sqR (t3 b)))
def pL (b : Code) : Code := sqL (sqR (sqR (sqR (t3 b))))
def pT (b : Code) : Code := sqR (sqR (sqR (sqR (t3 b))))
end Go.Proofs.Ythackanfbemabaa.E

namespace Go.Proofs.Ythackanfbemabaa.E
open Go
set_option maxHeartbeats 4000000
set_option maxRecDepth 100000
set_option linter.unusedSimpArgs false
set_option linter.unusedVariables false
attribute [local congr] c_wp c_ops c_op c_opS c_run c_runS c_dt c_seq c_blk c_loop c_S c_put c_bind c_mv c_pick c_nt c_ng c_bin c_binI c_binS c_beq c_B c_eqa c_hd c_cells c_blkK c_box c_vec c_mp c_nck c_mks c_appn c_mkm c_mput c_mlk c_mrm c_take c_ld c_ldF c_cellsK c_st c_fld c_fldv c_ix c_ixp c_ixv c_ixs c_sub c_subs c_len c_lens c_src c_dst c_ow c_app c_ext c_mm c_conv c_str c_isn c_fill c_rows c_boxo c_frz c_frzO c_frzA c_frzV c_spec c_specO c_opsP c_opP c_runP c_specP c_Z c_qretP c_fz c_fn c_gv c_cond c_res1 c_resL c_ret c_qret c_ite c_unr c_nx c_bk c_cut c_is
attribute [local irreducible] dwp

def acO15 : AC := (.seq (.ops [⟨(some 2), none, (.mv (.c (.int .i64 0)))⟩, ⟨(some 3), none, (.mv (.c .e0))⟩]) (.seq (.seq (.ops [⟨(some 6), none, (.mv (.t 0))⟩, ⟨(some 7), none, (.len (.t 6))⟩, ⟨(some 8), none, (.mv (.c (.int .i64 0)))⟩]) (.block 0 (.loop (.seq (.ops [⟨(some 9), none, (.bin .lss (.t 8) (.t 7))⟩]) (.seq (.cond (.t 9) .skip (.exit 0)) (.seq (.block 1 (.seq (.ops [⟨(some 10), none, (.ix 29 (.t 6) (.t 8))⟩, ⟨(some 11), none, (.ld true 29 (.t 10))⟩, ⟨(some 5), none, (.alloc [(.int .i64 0), (.str []), (.str []), (.int .i64 0), (.bool false), (.str []), (.int .i64 0), (.int .i64 0), .e0, .e0, (.str []), (.int .i64 0), (.int .i64 0), (.bool false), (.str []), .e0, .e0, .e0, .e0, (.int .i64 0), (.int .i64 0), (.int .i64 0), (.int .i64 0), (.int .i64 0), (.int .i64 0), (.int .i64 0), (.int .i64 0), (.str []), (.int .i64 0)])⟩, ⟨none, none, (.sto 29 (.t 5) (.t 11))⟩]) (.seq (.ops [⟨(some 12), none, (.fld 3 (.t 5))⟩, ⟨(some 13), none, (.ld false 1 (.t 12))⟩, ⟨(some 14), none, (.bin .eql (.t 13) (.c (.int .i64 4)))⟩]) (.cond (.t 14) (.seq (.fz 5 (.draw (.q true ⟨(some 15), none, (.fld 10 (.t 5))⟩ (.q true ⟨(some 16), none, (.fld 1 (.t 15))⟩ (.q true ⟨(some 17), none, (.ld false 1 (.t 16))⟩ (.q false ⟨(some 19), none, (.fld 10 (.t 5))⟩ (.q false ⟨(some 20), none, (.fld 5 (.t 19))⟩ (.q false ⟨(some 21), none, (.ld false 1 (.t 20))⟩ (.op ⟨(some 18), none, (.buildSl 9 1 0 [(.str [])] [])⟩ (.op ⟨(some 22), none, (.app 9 1 16 (.t 18) (.t 21))⟩ (.q false ⟨(some 2), none, (.mv (.t 17))⟩ (.q false ⟨(some 3), none, (.mv (.t 22))⟩ .nil)))))))))))) .ret) .skip)))) (.ops [⟨(some 23), none, (.bin .add (.t 8) (.c (.int .i64 1)))⟩, ⟨(some 8), none, (.mv (.t 23))⟩]))))))) (.seq (.ops [⟨(some 2), none, (.mv (.c (.int .i64 0)))⟩, ⟨(some 3), none, (.mv (.c .e0))⟩]) .ret)))
theorem trO15 : trCodeF Try.prog [] (Try.f15.body.getD .skip) = some (strip acO15) := by kernel_rfl
def Q15 (es : List Ev) (e : AE) (s : DS) : Prop := e = .ret ∧ s.env.length = 24 ∧ s.env[2]? = some (.int .i64 (rulesL es).1) ∧ ((s.env[3]? = some .e0 ∧ (rulesL es).2 = []) ∨ (s.env[3]? = some (.ow 22) ∧ mget s.mem 22 = some (.vec 9 1 ((rulesL es).2.map encS))))
theorem Q15_r (es : List Ev) (s : DS) : Q15 es .ret s = (s.env.length = 24 ∧ s.env[2]? = some (.int .i64 (rulesL es).1) ∧ ((s.env[3]? = some .e0 ∧ (rulesL es).2 = []) ∨ (s.env[3]? = some (.ow 22) ∧ mget s.mem 22 = some (.vec 9 1 ((rulesL es).2.map encS))))) := by simp [Q15]
theorem walk15 (es : List Ev) (hb : ∀ e ∈ es, e.allow.length ≤ 1000) : dwp Try.prog acO15 ⟨[.sl 29 (es.map encEv)] ++ List.replicate 23 .any, []⟩ (Q15 es) := by
  unfold acO15
  iterate 6 (all_goals (try (first
    | (with_reducible refine ite_in (fun _ => ?_) (fun _ => ?_))
    | (with_reducible refine ⟨fun _ => ?_, fun _ => ?_⟩)
    | (with_reducible refine And.intro ?_ ?_)
    | (with_reducible intro _)
    | (with_reducible exact is_in _)
    | (simp -implicitDefEqProofs only [SD, SF, SL, e_nf, reduceCtorEq, implies_true, ↓reduceIte, Nat.reduceEqDiff, Nat.reduceAdd, Nat.reduceMul, Nat.reduceSub, Nat.reduceLeDiff, Nat.reduceLT, Int.reduceLT, Int.reduceLE, Int.reduceEq, Int.reduceToNat, Int.reduceAdd, Int.reduceSub, Int.reduceNeg, Int.reduceBEq, Int.reduceBNe, Nat.reduceBEq, Int.cast_ofNat_Int, decide_true, decide_false, ne_eq, eq_self_iff_true, beq_eq_false_iff_ne, bne_iff_ne, List.replicate, *]))))
  refine loop_q (X := List Ev × List Ev × Unit) (fun n x => es = x.1 ++ x.2.1 ∧ n = x.2.1.length ∧ (rulesL es = rulesL x.2.1)) (fun x => [(8, .int .i64 x.1.length)]) (fun _ => []) [2, 3, 5, 9, 10, 11, 12, 13, 14, 15, 16, 17, 18, 19, 20, 21, 22, 23] [5, 18, 22]  (es).length ([], es, ()) ⟨rfl, rfl, by rfl⟩ ?_ ?_
  · simp -implicitDefEqProofs only [SD, SF, SL, e_nf, reduceCtorEq, implies_true, ↓reduceIte, Nat.reduceEqDiff, Nat.reduceAdd, Nat.reduceMul, Nat.reduceSub, Nat.reduceLeDiff, Nat.reduceLT, Int.reduceLT, Int.reduceLE, Int.reduceEq, Int.reduceToNat, Int.reduceAdd, Int.reduceSub, Int.reduceNeg, Int.reduceBEq, Int.reduceBNe, Nat.reduceBEq, Int.cast_ofNat_Int, decide_true, decide_false, ne_eq, eq_self_iff_true, beq_eq_false_iff_ne, bne_iff_ne, List.replicate, encEv, Q15_r] <;> simp
  · rintro n ⟨pre, rest, a⟩ ⟨he, rfl, hI⟩
    dsimp only at he hI
    cases rest with
    | nil =>
      obtain rfl : es = pre := by simpa using he
      clear he
      have hlt : ¬ (((es).length : Int) < ((es).length : Int)) := Int.lt_irrefl _
      have hq : rulesL ([] : List Ev) = (0, []) := rfl
      rw [hq] at hI
      iterate 30 (all_goals (try (first
        | (with_reducible refine ite_in (fun _ => ?_) (fun _ => ?_))
        | (with_reducible refine ⟨fun _ => ?_, fun _ => ?_⟩)
        | (with_reducible refine And.intro ?_ ?_)
        | (with_reducible intro _)
        | (with_reducible exact is_in _)
        | (simp -implicitDefEqProofs only [SD, SF, SL, e_nf, reduceCtorEq, implies_true, ↓reduceIte, Nat.reduceEqDiff, Nat.reduceAdd, Nat.reduceMul, Nat.reduceSub, Nat.reduceLeDiff, Nat.reduceLT, Int.reduceLT, Int.reduceLE, Int.reduceEq, Int.reduceToNat, Int.reduceAdd, Int.reduceSub, Int.reduceNeg, Int.reduceBEq, Int.reduceBNe, Nat.reduceBEq, Int.cast_ofNat_Int, decide_true, decide_false, ne_eq, eq_self_iff_true, beq_eq_false_iff_ne, bne_iff_ne, List.replicate, encEv, Q15_r, *]))))
      all_goals (first | rfl | (simp [hI]; done) | (simp_all; done) | trace_state)

    | cons x rest =>
      have hlt := cut_lt he
      have hx := cutD encEv he
      simp only [encEv] at hx
      have hw := wrap_len (n := pre.length) (m := (es).length) (cut_lt' he) (by assumption)
      replace he := Hd.mk he
      have hbx := hb x (by rw [he.out]; simp)
      have hb1 : x.allow.length ≤ maxLen := by simp only [maxLen]; omega
      have hb2 : x.allow.length * 16 ≤ 140737488355328 := by omega
      have hrl : rulesL (x :: rest) = if x.kind = 4 then (x.n, x.allow) else rulesL rest := rfl
      by_cases h1 : x.kind = 4
      all_goals (first | rw [if_pos h1] at hrl | rw [if_neg h1] at hrl)
      all_goals rw [hrl] at hI
      all_goals clear hrl
      iterate 30 (all_goals (try (first
        | ((with_reducible refine back_in rest.length [2, 3, 5, 9, 10, 11, 12, 13, 14, 15, 16, 17, 18, 19, 20, 21, 22, 23] [5, 18, 22] (pre ++ [x], rest, a) ?_ ⟨?_, ?_, ?_⟩ ?_)
           · simp
           · exact cut_snoc he.out
           · rfl
           · first | rfl | assumption
           · first | (simp -implicitDefEqProofs only [SD, SF, SL, e_nf, reduceCtorEq, implies_true, ↓reduceIte, Nat.reduceEqDiff, Nat.reduceAdd, Nat.reduceMul, Nat.reduceSub, Nat.reduceLeDiff, Nat.reduceLT, Int.reduceLT, Int.reduceLE, Int.reduceEq, Int.reduceToNat, Int.reduceAdd, Int.reduceSub, Int.reduceNeg, Int.reduceBEq, Int.reduceBNe, Nat.reduceBEq, Int.cast_ofNat_Int, decide_true, decide_false, ne_eq, eq_self_iff_true, beq_eq_false_iff_ne, bne_iff_ne, List.replicate, encEv, Q15_r] <;> simp <;> done) | (simp -implicitDefEqProofs only [SD, SF, SL, e_nf, reduceCtorEq, implies_true, ↓reduceIte, Nat.reduceEqDiff, Nat.reduceAdd, Nat.reduceMul, Nat.reduceSub, Nat.reduceLeDiff, Nat.reduceLT, Int.reduceLT, Int.reduceLE, Int.reduceEq, Int.reduceToNat, Int.reduceAdd, Int.reduceSub, Int.reduceNeg, Int.reduceBEq, Int.reduceBNe, Nat.reduceBEq, Int.cast_ofNat_Int, decide_true, decide_false, ne_eq, eq_self_iff_true, beq_eq_false_iff_ne, bne_iff_ne, List.replicate, encEv, Q15_r, *] <;> simp_all <;> done))
        | (with_reducible refine ite_in (fun _ => ?_) (fun _ => ?_))
        | (with_reducible refine ⟨fun _ => ?_, fun _ => ?_⟩)
        | (with_reducible refine And.intro ?_ ?_)
        | (with_reducible intro _)
        | (with_reducible exact is_in _)
        | (simp -implicitDefEqProofs only [SD, SF, SL, e_nf, reduceCtorEq, implies_true, ↓reduceIte, Nat.reduceEqDiff, Nat.reduceAdd, Nat.reduceMul, Nat.reduceSub, Nat.reduceLeDiff, Nat.reduceLT, Int.reduceLT, Int.reduceLE, Int.reduceEq, Int.reduceToNat, Int.reduceAdd, Int.reduceSub, Int.reduceNeg, Int.reduceBEq, Int.reduceBNe, Nat.reduceBEq, Int.cast_ofNat_Int, decide_true, decide_false, ne_eq, eq_self_iff_true, beq_eq_false_iff_ne, bne_iff_ne, List.replicate, encEv, Q15_r, *]))))
      all_goals (first | omega | rfl | (simp_all; done) | (simp [hI]; done) | trace_state)
end Go.Proofs.Ythackanfbemabaa.E
