/-
  AuK: walks of functions of the program at data level.
-/
import Derived.Test.YtcolebkklojccaaGreatProg
import Derived.Test.YtcolebkklojccaaGreatEngZ
import Derived.Test.YtcolebkklojccaaGreatAuP
import Derived.Test.YtcolebkklojccaaGreatAuG
import Derived.Test.YtcolebkklojccaaGreatAuE
import Derived.Test.YtcolebkklojccaaGreatAuA
import Derived.KernelRfl
set_option linter.unusedVariables false
set_option linter.unusedSimpArgs false
namespace Go.Proofs.YtcolebkklojccaaGreat.E
open Go
set_option maxHeartbeats 4000000
set_option maxRecDepth 100000
set_option linter.unusedSimpArgs false
set_option linter.unusedVariables false
attribute [local congr] c_wp c_ops c_op c_opS c_run c_runS c_dt c_seq c_blk c_loop c_S c_put c_bind c_mv c_pick c_nt c_ng c_bin c_binI c_binS c_beq c_B c_eqa c_hd c_cells c_blkK c_box c_vec c_mp c_nck c_mks c_appn c_mkm c_mput c_mlk c_mrm c_take c_ld c_ldF c_cellsK c_st c_fld c_fldv c_ix c_ixp c_ixv c_ixs c_sub c_subs c_len c_lens c_src c_dst c_ow c_app c_ext c_mm c_conv c_str c_isn c_fill c_rows c_boxo c_frz c_frzO c_frzA c_frzV c_spec c_specO c_opsP c_opP c_runP c_specP c_Z c_qretP c_fz c_fn c_gv c_cond c_res1 c_resL c_ret c_qret c_ite c_unr c_nx c_bk c_cut c_is
attribute [local irreducible] dwp

theorem verd_sub (x y : Int) : subD (verdD x) (verdD y) = (x = y) := by
  apply propext
  simp only [verdD, subD, hOth]
  constructor
  · intro h
    simp at h
    first | exact h | exact h.symm
  · rintro rfl
    exact .inl rfl
def ac68 : AC := (.seq (.ops [⟨(some 4), none, (.mv (.t 0))⟩, ⟨(some 5), none, (.nt (.t 4))⟩]) (.cond (.t 5) (.opsp [⟨(some 6), none, (.mv (.t 1))⟩, ⟨(some 7), none, (.call false 70 [(.t 6)])⟩]) .skip))
theorem tr68 : Tryz.f68.body.bind (trCode Tryz.prog) = some (strip ac68) := by kernel_rfl
theorem spec68 (x : Int) : Spec Tryz.prog 68 [.fz (.bool true), .fz (.int .i64 x)] (.fz (.tup [])) := by
  refine spec_at (n := 6) (ars := []) (ac := ac68) Tryz.func68 (by kernel_rfl) (by kernel_rfl) tr68 (by kernel_rfl) ?_
  unfold ac68
  iterate 30 (all_goals (try (first
    | (with_reducible refine ite_in (fun _ => ?_) (fun _ => ?_))
    | (with_reducible refine ⟨fun _ => ?_, fun _ => ?_⟩)
    | (with_reducible refine And.intro ?_ ?_)
    | (with_reducible intro _)
    | (with_reducible exact is_in _)
    | (simp -implicitDefEqProofs only [SD, SF, SL, e_nf, reduceCtorEq, implies_true, ↓reduceIte, Nat.reduceEqDiff, Nat.reduceAdd, Nat.reduceMul, Nat.reduceSub, Nat.reduceLeDiff, Nat.reduceLT, Int.reduceLT, Int.reduceLE, Int.reduceEq, Int.reduceToNat, Int.reduceAdd, Int.reduceSub, Int.reduceNeg, Int.reduceBEq, Int.reduceBNe, Nat.reduceBEq, Int.cast_ofNat_Int, decide_true, decide_false, ne_eq, eq_self_iff_true, beq_eq_false_iff_ne, bne_iff_ne, List.replicate, *]))))
theorem specP68 (x : Int) : SpecP Tryz.prog 68 [(.bool false), (.int .i64 x)] (verdD x) := by
  refine specP_at (n := 6) (ac := ac68) Tryz.func68 (by kernel_rfl) (by kernel_rfl) tr68 ?_
  unfold ac68
  iterate 30 (all_goals (try (first
    | (refine callP_pan (specP70 x) rfl ?_)
    | (with_reducible refine ite_in (fun _ => ?_) (fun _ => ?_))
    | (with_reducible refine ⟨fun _ => ?_, fun _ => ?_⟩)
    | (with_reducible refine And.intro ?_ ?_)
    | (with_reducible intro _)
    | (with_reducible exact is_in _)
    | (simp -implicitDefEqProofs only [SD, SF, SL, e_nf, reduceCtorEq, implies_true, ↓reduceIte, Nat.reduceEqDiff, Nat.reduceAdd, Nat.reduceMul, Nat.reduceSub, Nat.reduceLeDiff, Nat.reduceLT, Int.reduceLT, Int.reduceLE, Int.reduceEq, Int.reduceToNat, Int.reduceAdd, Int.reduceSub, Int.reduceNeg, Int.reduceBEq, Int.reduceBNe, Nat.reduceBEq, Int.cast_ofNat_Int, decide_true, decide_false, ne_eq, eq_self_iff_true, beq_eq_false_iff_ne, bne_iff_ne, List.replicate, verd_sub, *]))))

theorem need_call {b : Bool} {x : Int} {dst : Option Nat} {s : DS} {K : DS → Prop} {Z : DV → DS → Prop} (h : kIte (b = true) (kSpec Tryz.prog 68 [.bool true, .int .i64 x] dst s K) (Z (verdD x) s)) : kSpecP Tryz.prog 68 [.bool b, .int .i64 x] dst s K Z := by
  cases b with
  | true => exact callP_ret (h.1 rfl)
  | false => exact callP_pan (specP68 x) rfl (h.2 (by simp))

end Go.Proofs.YtcolebkklojccaaGreat.E

namespace Go.Proofs.YtcolebkklojccaaGreat.E
open Go
set_option maxHeartbeats 4000000
set_option maxRecDepth 100000
set_option linter.unusedSimpArgs false
set_option linter.unusedVariables false
attribute [local congr] c_wp c_ops c_op c_opS c_run c_runS c_dt c_seq c_blk c_loop c_S c_put c_bind c_mv c_pick c_nt c_ng c_bin c_binI c_binS c_beq c_B c_eqa c_hd c_cells c_blkK c_box c_vec c_mp c_nck c_mks c_appn c_mkm c_mput c_mlk c_mrm c_take c_ld c_ldF c_cellsK c_st c_fld c_fldv c_ix c_ixp c_ixv c_ixs c_sub c_subs c_len c_lens c_src c_dst c_ow c_app c_ext c_mm c_conv c_str c_isn c_fill c_rows c_boxo c_frz c_frzO c_frzA c_frzV c_spec c_specO c_opsP c_opP c_runP c_specP c_Z c_qretP c_fz c_fn c_gv c_cond c_res1 c_resL c_ret c_qret c_ite c_unr c_nx c_bk c_cut c_is
attribute [local irreducible] dwp

def firstB (e : Ev) (es : List Ev) : Bool := hasCre es && decide (e.prev = [(creEv es).ident]) && decide (e.sender = (creEv es).sender) && decide (e.key = (creEv es).sender) && decide (e.n = 3) && !hasMem es e.key
def ownR (m now rule : Int) : Int := if m = 3 then joinR rule now else if m = 2 then knockR rule now else 0
def levR (e : Ev) (es : List Ev) : Int := if userV (levelsL es) e.sender < needs (levelsL es) e.kind then 20 else if e.kind = 3 then chgR (levelsL es) e.lv e.sender else 0
def othR (e : Ev) (es : List Ev) (now : Int) : Int :=
  if memberL es e.sender ≠ 3 then 18 else
  if e.n = 1 ∧ userV (levelsL es) e.sender < (levelsL es).a5 then 20 else
  if e.n = 0 ∧ (now = 4 ∧ userV (levelsL es) e.sender < (levelsL es).a7 ∨ userV (levelsL es) e.sender < (levelsL es).a6 ∨ userV (levelsL es) e.sender ≤ userV (levelsL es) e.key) then 20 else
  if e.n = 4 ∧ (userV (levelsL es) e.sender < (levelsL es).a7 ∨ userV (levelsL es) e.sender ≤ userV (levelsL es) e.key) then 20 else 0
def memR' (e : Ev) (es : List Ev) : Int :=
  if e.key = e.sender ∧ memberL es e.key = 4 then 19 else
  if moveR (memberL es e.key) e.n (decide (e.key = e.sender)) = false then 18 else
  if e.key = e.sender then ownR e.n (memberL es e.key) (rulesL es).1 else othR e es (memberL es e.key)
def memR (e : Ev) (es : List Ev) : Int := if firstB e es = true then 0 else memR' e es
def allR (e : Ev) (es : List Ev) : Int :=
  if e.kind = 1 then (if hasCre es = false ∧ srvOf e.sender = srvOf e.room then 0 else 17) else
  if hasCre es = false then 17 else
  if e.kind = 2 then memR e es else
  if memberL es e.sender ≠ 3 then 18 else levR e es
theorem prev_one (l : List Int) (x : Int) : (l = [x]) = (l.length = 1 ∧ (l.map encN).getD 0 [] = [.int .i64 x]) := by
  match l with
  | [] => simp
  | [y] => simp [encN]
  | _ :: _ :: _ => simp
def ac89 : AC := (.seq (.ops [⟨(some 6), none, (.mv (.c (.int .i64 0)))⟩]) (.seq (.ops [⟨(some 10), none, (.mv (.t 2))⟩, ⟨(some 11), none, (.call false 99 [(.t 10)])⟩, ⟨(some 9), none, (.mv (.t 11))⟩, ⟨(some 12), none, (.ext (.t 9) 0)⟩, ⟨(some 13), none, (.ext (.t 9) 1)⟩, ⟨(some 7), none, (.mv (.t 12))⟩, ⟨(some 8), none, (.mv (.t 13))⟩]) (.seq (.seq (.ops [⟨(some 14), none, (.mv (.t 0))⟩]) (.block 0 (.seq (.ops [⟨(some 16), none, (.bin .eql (.t 14) (.c (.int .i64 3)))⟩, ⟨(some 15), none, (.mv (.t 16))⟩]) (.cond (.t 15) (.seq (.ops [⟨(some 17), none, (.mv (.t 7))⟩, ⟨(some 18), none, (.mv (.t 1))⟩, ⟨(some 19), none, (.call false 100 [(.t 17), (.t 18)])⟩, ⟨(some 6), none, (.mv (.t 19))⟩]) .ret) (.seq (.ops [⟨(some 21), none, (.bin .eql (.t 14) (.c (.int .i64 2)))⟩, ⟨(some 20), none, (.mv (.t 21))⟩]) (.cond (.t 20) (.seq (.ops [⟨(some 22), none, (.mv (.t 7))⟩, ⟨(some 23), none, (.mv (.t 1))⟩, ⟨(some 24), none, (.call false 101 [(.t 22), (.t 23)])⟩, ⟨(some 6), none, (.mv (.t 24))⟩]) .ret) .skip)))))) (.seq (.ops [⟨(some 6), none, (.mv (.c (.int .i64 0)))⟩]) .ret))))
theorem tr89 : Tryz.f89.body.bind (trCode Tryz.prog) = some (strip ac89) := by kernel_rfl
theorem spec89 (m now : Int) (es : List Ev) (hb : ∀ e ∈ es, e.allow.length ≤ 1000) : Spec Tryz.prog 89 [.fz (.int .i64 m), .fz (.int .i64 now), .fz (.sl 29 (es.map encEv))] (.fz (.int .i64 (ownR m now (rulesL es).1))) := by
  refine spec_at (n := 22) (ars := [(.t 6)]) (ac := ac89) Tryz.func89 (by kernel_rfl) (by kernel_rfl) tr89 (by kernel_rfl) ?_
  unfold ac89
  iterate 30 (all_goals (try (first
    | ((with_reducible refine of_kSpec ?_); refine call_fz (spec99 es hb) rfl ?_)
    | ((with_reducible refine of_kSpec ?_); refine call_fz (spec100 _ _) rfl ?_)
    | ((with_reducible refine of_kSpec ?_); refine call_fz (spec101 _ _) rfl ?_)
    | (with_reducible refine ite_in (fun _ => ?_) (fun _ => ?_))
    | (with_reducible refine ⟨fun _ => ?_, fun _ => ?_⟩)
    | (with_reducible refine And.intro ?_ ?_)
    | (with_reducible intro _)
    | (with_reducible exact is_in _)
    | (simp -implicitDefEqProofs only [SD, SF, SL, e_nf, reduceCtorEq, implies_true, ↓reduceIte, Nat.reduceEqDiff, Nat.reduceAdd, Nat.reduceMul, Nat.reduceSub, Nat.reduceLeDiff, Nat.reduceLT, Int.reduceLT, Int.reduceLE, Int.reduceEq, Int.reduceToNat, Int.reduceAdd, Int.reduceSub, Int.reduceNeg, Int.reduceBEq, Int.reduceBNe, Nat.reduceBEq, Int.cast_ofNat_Int, decide_true, decide_false, ne_eq, eq_self_iff_true, beq_eq_false_iff_ne, bne_iff_ne, List.replicate, *]))))
  all_goals (simp_all [ownR])
def ac53 : AC := (.seq (.ops [⟨(some 3), none, (.box (.t 0))⟩, ⟨(some 6), none, (.mv (.c (.int .i64 0)))⟩]) (.seq (.ops [⟨(some 10), none, (.mv (.t 1))⟩, ⟨(some 11), none, (.call false 77 [(.t 10)])⟩, ⟨(some 9), none, (.mv (.t 11))⟩, ⟨(some 12), none, (.ext (.t 9) 0)⟩, ⟨(some 13), none, (.ext (.t 9) 1)⟩, ⟨(some 7), none, (.mv (.t 12))⟩, ⟨(some 8), none, (.mv (.t 13))⟩]) (.seq (.seq (.ops [⟨(some 14), none, (.fld 10 (.t 3))⟩, ⟨(some 15), none, (.fld 1 (.t 14))⟩, ⟨(some 16), none, (.ld false 1 (.t 15))⟩, ⟨(some 17), none, (.bin .eql (.t 16) (.c (.int .i64 3)))⟩]) (.cond (.t 17) (.seq (.ops [⟨(some 18), none, (.mv (.t 7))⟩, ⟨(some 19), none, (.mv (.t 2))⟩, ⟨(some 20), none, (.call false 78 [(.t 18), (.t 19)])⟩, ⟨(some 6), none, (.mv (.t 20))⟩]) .ret) .skip)) (.seq (.seq (.ops [⟨(some 21), none, (.fld 10 (.t 3))⟩, ⟨(some 22), none, (.fld 1 (.t 21))⟩, ⟨(some 23), none, (.ld false 1 (.t 22))⟩, ⟨(some 24), none, (.bin .eql (.t 23) (.c (.int .i64 2)))⟩]) (.cond (.t 24) (.seq (.ops [⟨(some 25), none, (.mv (.t 7))⟩, ⟨(some 26), none, (.mv (.t 2))⟩, ⟨(some 27), none, (.call false 79 [(.t 25), (.t 26)])⟩, ⟨(some 6), none, (.mv (.t 27))⟩]) .ret) .skip)) (.seq (.ops [⟨(some 6), none, (.mv (.c (.int .i64 0)))⟩]) .ret)))))
theorem tr53 : Tryz.f53.body.bind (trCode Tryz.prog) = some (strip ac53) := by kernel_rfl
theorem spec53 (e : Ev) (es : List Ev) (now : Int) (hb : ∀ e ∈ es, e.allow.length ≤ 1000) : Spec Tryz.prog 53 [.fz (.agg (encEv e)), .fz (.sl 29 (es.map encEv)), .fz (.int .i64 now)] (.fz (.int .i64 (ownR e.n now (rulesL es).1))) := by
  refine spec_at (n := 25) (ars := [(.t 6)]) (ac := ac53) Tryz.func53 (by kernel_rfl) (by kernel_rfl) tr53 (by kernel_rfl) ?_
  unfold ac53
  iterate 30 (all_goals (try (first
    | ((with_reducible refine of_kSpec ?_); refine call_fz (spec77 es hb) rfl ?_)
    | ((with_reducible refine of_kSpec ?_); refine call_fz (spec78 _ _) rfl ?_)
    | ((with_reducible refine of_kSpec ?_); refine call_fz (spec79 _ _) rfl ?_)
    | (with_reducible refine ite_in (fun _ => ?_) (fun _ => ?_))
    | (with_reducible refine ⟨fun _ => ?_, fun _ => ?_⟩)
    | (with_reducible refine And.intro ?_ ?_)
    | (with_reducible intro _)
    | (with_reducible exact is_in _)
    | (simp -implicitDefEqProofs only [SD, SF, SL, e_nf, reduceCtorEq, implies_true, ↓reduceIte, Nat.reduceEqDiff, Nat.reduceAdd, Nat.reduceMul, Nat.reduceSub, Nat.reduceLeDiff, Nat.reduceLT, Int.reduceLT, Int.reduceLE, Int.reduceEq, Int.reduceToNat, Int.reduceAdd, Int.reduceSub, Int.reduceNeg, Int.reduceBEq, Int.reduceBNe, Nat.reduceBEq, Int.cast_ofNat_Int, decide_true, decide_false, ne_eq, eq_self_iff_true, beq_eq_false_iff_ne, bne_iff_ne, List.replicate, encEv, *]))))
  all_goals (simp_all [ownR])
def ac73 : AC := (.seq (.ops [⟨(some 2), none, (.box (.t 0))⟩, ⟨(some 4), none, (.mv (.c (.int .i64 0)))⟩]) (.seq (.ops [⟨(some 8), none, (.mv (.t 1))⟩, ⟨(some 9), none, (.call false 90 [(.t 8)])⟩, ⟨(some 7), none, (.mv (.t 9))⟩, ⟨(some 10), none, (.ext (.t 7) 0)⟩, ⟨(some 11), none, (.ext (.t 7) 1)⟩, ⟨(some 5), none, (.alloc [.e0, .e0, (.int .i64 0), (.int .i64 0), (.int .i64 0), (.int .i64 0), (.int .i64 0), (.int .i64 0), (.int .i64 0)])⟩, ⟨none, none, (.sto 9 (.t 5) (.t 10))⟩, ⟨(some 6), none, (.mv (.t 11))⟩]) (.seq (.seq (.draw (.q false ⟨(some 12), none, (.ld true 9 (.t 5))⟩ (.q false ⟨(some 13), none, (.fld 2 (.t 2))⟩ (.q false ⟨(some 14), none, (.ld false 1 (.t 13))⟩ (.q false ⟨(some 16), none, (.ld true 9 (.t 5))⟩ (.q false ⟨(some 17), none, (.fld 3 (.t 2))⟩ (.q false ⟨(some 18), none, (.ld false 1 (.t 17))⟩ (.op ⟨(some 15), none, (.call false 91 [(.t 12), (.t 14)])⟩ (.op ⟨(some 19), none, (.call false 92 [(.t 16), (.t 18)])⟩ (.q false ⟨(some 20), none, (.bin .lss (.t 15) (.t 19))⟩ .nil)))))))))) (.cond (.t 20) (.seq (.ops [⟨(some 4), none, (.mv (.c (.int .i64 20)))⟩]) .ret) .skip)) (.seq (.seq (.ops [⟨(some 21), none, (.fld 3 (.t 2))⟩, ⟨(some 22), none, (.ld false 1 (.t 21))⟩, ⟨(some 23), none, (.bin .eql (.t 22) (.c (.int .i64 3)))⟩]) (.cond (.t 23) (.seq (.ops [⟨(some 24), none, (.ld true 9 (.t 5))⟩, ⟨(some 25), none, (.fld 10 (.t 2))⟩, ⟨(some 26), none, (.fld 7 (.t 25))⟩, ⟨(some 27), none, (.ld true 9 (.t 26))⟩, ⟨(some 28), none, (.fld 2 (.t 2))⟩, ⟨(some 29), none, (.ld false 1 (.t 28))⟩, ⟨(some 30), none, (.call false 93 [(.t 24), (.t 27), (.t 29)])⟩, ⟨(some 4), none, (.mv (.t 30))⟩]) .ret) .skip)) (.seq (.ops [⟨(some 4), none, (.mv (.c (.int .i64 0)))⟩]) .ret)))))
theorem tr73 : Tryz.f73.body.bind (trCode Tryz.prog) = some (strip ac73) := by kernel_rfl
theorem spec73 (e : Ev) (es : List Ev) (hb : ∀ e ∈ es, e.lv.users.length ≤ 1000 ∧ e.lv.kinds.length ≤ 1000) : Spec Tryz.prog 73 [.fz (.agg (encEv e)), .fz (.sl 29 (es.map encEv))] (.fz (.int .i64 (levR e es))) := by
  refine spec_at (n := 29) (ars := [(.t 4)]) (ac := ac73) Tryz.func73 (by kernel_rfl) (by kernel_rfl) tr73 (by kernel_rfl) ?_
  unfold ac73
  iterate 30 (all_goals (try (first
    | ((with_reducible refine of_kSpec ?_); refine call_fz (spec90 es hb) rfl ?_)
    | ((with_reducible refine of_kSpec ?_); refine call_fz (spec91 (levelsL es) e.sender) rfl ?_)
    | ((with_reducible refine of_kSpec ?_); refine call_fz (spec92 (levelsL es) e.kind) rfl ?_)
    | ((with_reducible refine of_kSpec ?_); refine call_fz (spec93 (levelsL es) e.lv e.sender) rfl ?_)
    | (with_reducible refine ite_in (fun _ => ?_) (fun _ => ?_))
    | (with_reducible refine ⟨fun _ => ?_, fun _ => ?_⟩)
    | (with_reducible refine And.intro ?_ ?_)
    | (with_reducible intro _)
    | (with_reducible exact is_in _)
    | (simp -implicitDefEqProofs only [SD, SF, SL, e_nf, reduceCtorEq, implies_true, ↓reduceIte, Nat.reduceEqDiff, Nat.reduceAdd, Nat.reduceMul, Nat.reduceSub, Nat.reduceLeDiff, Nat.reduceLT, Int.reduceLT, Int.reduceLE, Int.reduceEq, Int.reduceToNat, Int.reduceAdd, Int.reduceSub, Int.reduceNeg, Int.reduceBEq, Int.reduceBNe, Nat.reduceBEq, Int.cast_ofNat_Int, decide_true, decide_false, ne_eq, eq_self_iff_true, beq_eq_false_iff_ne, bne_iff_ne, List.replicate, encEv, encLv, *]))))
  all_goals (first | (simp_all [levR, userV]; done) | (simp_all [levR, userV]; omega))
def ac37 : AC := (.seq (.ops [⟨(some 2), none, (.box (.t 0))⟩, ⟨(some 4), none, (.mv (.c (.int .i64 0)))⟩]) (.seq (.ops [⟨(some 8), none, (.mv (.t 1))⟩, ⟨(some 9), none, (.call false 55 [(.t 8)])⟩, ⟨(some 7), none, (.mv (.t 9))⟩, ⟨(some 10), none, (.ext (.t 7) 0)⟩, ⟨(some 11), none, (.ext (.t 7) 1)⟩, ⟨(some 5), none, (.alloc [.e0, .e0, (.int .i64 0), (.int .i64 0), (.int .i64 0), (.int .i64 0), (.int .i64 0), (.int .i64 0), (.int .i64 0)])⟩, ⟨none, none, (.sto 9 (.t 5) (.t 10))⟩, ⟨(some 6), none, (.mv (.t 11))⟩]) (.seq (.seq (.draw (.q false ⟨(some 12), none, (.ld true 9 (.t 5))⟩ (.q false ⟨(some 13), none, (.fld 2 (.t 2))⟩ (.q false ⟨(some 14), none, (.ld false 1 (.t 13))⟩ (.q false ⟨(some 16), none, (.ld true 9 (.t 5))⟩ (.q false ⟨(some 17), none, (.fld 3 (.t 2))⟩ (.q false ⟨(some 18), none, (.ld false 1 (.t 17))⟩ (.op ⟨(some 15), none, (.call false 56 [(.t 12), (.t 14)])⟩ (.op ⟨(some 19), none, (.call false 57 [(.t 16), (.t 18)])⟩ (.q false ⟨(some 20), none, (.bin .lss (.t 15) (.t 19))⟩ .nil)))))))))) (.cond (.t 20) (.seq (.ops [⟨(some 4), none, (.mv (.c (.int .i64 20)))⟩]) .ret) .skip)) (.seq (.seq (.ops [⟨(some 21), none, (.fld 3 (.t 2))⟩, ⟨(some 22), none, (.ld false 1 (.t 21))⟩, ⟨(some 23), none, (.bin .eql (.t 22) (.c (.int .i64 3)))⟩]) (.cond (.t 23) (.seq (.ops [⟨(some 24), none, (.ld true 9 (.t 5))⟩, ⟨(some 25), none, (.fld 10 (.t 2))⟩, ⟨(some 26), none, (.fld 7 (.t 25))⟩, ⟨(some 27), none, (.ld true 9 (.t 26))⟩, ⟨(some 28), none, (.fld 2 (.t 2))⟩, ⟨(some 29), none, (.ld false 1 (.t 28))⟩, ⟨(some 30), none, (.call false 58 [(.t 24), (.t 27), (.t 29)])⟩, ⟨(some 4), none, (.mv (.t 30))⟩]) .ret) .skip)) (.seq (.ops [⟨(some 4), none, (.mv (.c (.int .i64 0)))⟩]) .ret)))))
theorem tr37 : Tryz.f37.body.bind (trCode Tryz.prog) = some (strip ac37) := by kernel_rfl
theorem spec37 (e : Ev) (es : List Ev) (hb : ∀ e ∈ es, e.lv.users.length ≤ 1000 ∧ e.lv.kinds.length ≤ 1000) (hk : e.lv.kinds.length ≤ 1000) (hL : (levelsL es).kinds.length ≤ 1000) : Spec Tryz.prog 37 [.fz (.agg (encEv e)), .fz (.sl 29 (es.map encEv))] (.fz (.int .i64 (levR e es))) := by
  refine spec_at (n := 29) (ars := [(.t 4)]) (ac := ac37) Tryz.func37 (by kernel_rfl) (by kernel_rfl) tr37 (by kernel_rfl) ?_
  unfold ac37
  iterate 30 (all_goals (try (first
    | ((with_reducible refine of_kSpec ?_); refine call_fz (spec55 es) rfl ?_)
    | ((with_reducible refine of_kSpec ?_); refine call_fz (spec56 (levelsL es) e.sender) rfl ?_)
    | ((with_reducible refine of_kSpec ?_); refine call_fz (spec57 (levelsL es) e.kind) rfl ?_)
    | ((with_reducible refine of_kSpec ?_); refine call_fz (spec58 (levelsL es) e.lv e.sender ⟨hL, hk⟩) rfl ?_)
    | (with_reducible refine ite_in (fun _ => ?_) (fun _ => ?_))
    | (with_reducible refine ⟨fun _ => ?_, fun _ => ?_⟩)
    | (with_reducible refine And.intro ?_ ?_)
    | (with_reducible intro _)
    | (with_reducible exact is_in _)
    | (simp -implicitDefEqProofs only [SD, SF, SL, e_nf, reduceCtorEq, implies_true, ↓reduceIte, Nat.reduceEqDiff, Nat.reduceAdd, Nat.reduceMul, Nat.reduceSub, Nat.reduceLeDiff, Nat.reduceLT, Int.reduceLT, Int.reduceLE, Int.reduceEq, Int.reduceToNat, Int.reduceAdd, Int.reduceSub, Int.reduceNeg, Int.reduceBEq, Int.reduceBNe, Nat.reduceBEq, Int.cast_ofNat_Int, decide_true, decide_false, ne_eq, eq_self_iff_true, beq_eq_false_iff_ne, bne_iff_ne, List.replicate, encEv, encLv, *]))))
  all_goals (first | (simp_all [levR, userV]; done) | (simp_all [levR, userV]; omega))

end Go.Proofs.YtcolebkklojccaaGreat.E

namespace Go.Proofs.YtcolebkklojccaaGreat.E
open Go
set_option maxHeartbeats 4000000
set_option maxRecDepth 100000
set_option linter.unusedSimpArgs false
set_option linter.unusedVariables false
attribute [local congr] c_wp c_ops c_op c_opS c_run c_runS c_dt c_seq c_blk c_loop c_S c_put c_bind c_mv c_pick c_nt c_ng c_bin c_binI c_binS c_beq c_B c_eqa c_hd c_cells c_blkK c_box c_vec c_mp c_nck c_mks c_appn c_mkm c_mput c_mlk c_mrm c_take c_ld c_ldF c_cellsK c_st c_fld c_fldv c_ix c_ixp c_ixv c_ixs c_sub c_subs c_len c_lens c_src c_dst c_ow c_app c_ext c_mm c_conv c_str c_isn c_fill c_rows c_boxo c_frz c_frzO c_frzA c_frzV c_spec c_specO c_opsP c_opP c_runP c_specP c_Z c_qretP c_fz c_fn c_gv c_cond c_res1 c_resL c_ret c_qret c_ite c_unr c_nx c_bk c_cut c_is
attribute [local irreducible] dwp

theorem colon_cons' {x : UInt8} {t : List UInt8} {mk : Nat} (h : markB (x :: t) mk = true) (hm : mk = 64 ∨ mk = 33) : colonN (x :: t) = colonN t + 1 ∧ colonN t < t.length := by
  simp only [markB, Bool.and_eq_true, decide_eq_true_eq, nameOK, cut3] at h
  obtain ⟨h1, ⟨h2, _⟩, _⟩ := h
  refine ⟨?_, h2⟩
  rw [colon_cons, if_neg]
  rintro rfl
  have : (58 : UInt8).toNat = 58 := rfl
  omega
theorem srv_ref {s : List UInt8} {mk : Nat} (h : markB s mk = true) (hm : mk = 64 ∨ mk = 33) : s.drop (colonN s + 1) = srvOf s ∧ colonN s + 1 ≤ s.length := by
  cases s with
  | nil => simp [markB] at h
  | cons x t =>
    obtain ⟨h1, h2⟩ := colon_cons' h hm
    have hX : (markB (x :: t) 64 || markB (x :: t) 33) = true := by
      rcases hm with rfl | rfl <;> simp [h]
    refine ⟨?_, by simp; omega⟩
    rw [srvOf, hX, h1]
    simp [cut2, h2]
theorem srv_no {s : List UInt8} (h1 : markB s 64 = false) (h2 : markB s 33 = false) : srvOf s = [] := by simp [srvOf, h1, h2]
def ac34 : AC := (.seq (.ops [⟨(some 2), none, (.mv (.c (.str [])))⟩]) (.seq (.seq (.ops [⟨(some 3), none, (.mv (.t 0))⟩, ⟨(some 4), none, (.call false 49 [(.t 3), (.c (.int .u8 64))])⟩, ⟨(some 5), none, (.nt (.t 4))⟩, ⟨(some 6), none, (.mv (.t 5))⟩, ⟨(some 7), (some (6, true)), (.mv (.t 0))⟩, ⟨(some 8), (some (6, true)), (.call false 49 [(.t 7), (.c (.int .u8 33))])⟩, ⟨(some 9), (some (6, true)), (.nt (.t 8))⟩, ⟨(some 10), none, (.pick (.t 6) (.t 9) (.c (.bool false)))⟩]) (.cond (.t 10) (.seq (.ops [⟨(some 2), none, (.mv (.c (.str [])))⟩]) .ret) .skip)) (.seq (.ops [⟨(some 11), none, (.mv (.t 0))⟩, ⟨(some 12), none, (.mv (.t 0))⟩, ⟨(some 13), none, (.call false 50 [(.t 12)])⟩, ⟨(some 14), none, (.bin .add (.t 13) (.c (.int .i64 1)))⟩, ⟨(some 15), none, (.subs (.t 11) (some (.t 14)) none)⟩, ⟨(some 2), none, (.mv (.t 15))⟩]) .ret)))
theorem tr34 : Tryz.f34.body.bind (trCode Tryz.prog) = some (strip ac34) := by kernel_rfl
theorem spec34 (s : List UInt8) (hb : s.length ≤ 100000) : Spec Tryz.prog 34 [.fz (.str s)] (.fz (.str (srvOf s))) := by
  refine spec_at (n := 15) (ars := [(.t 2)]) (ac := ac34) Tryz.func34 (by kernel_rfl) (by kernel_rfl) tr34 (by kernel_rfl) ?_
  unfold ac34
  have hle := colon_le s
  have hw : IntKind.i64.wrap ((colonN s : Int) + 1) = ((colonN s + 1 : Nat) : Int) := by
    rw [wrap_in (by omega) (by omega)]
    omega
  have h1 := fun h => srv_ref (s := s) (mk := 64) h (.inl rfl)
  have h2 := fun h => srv_ref (s := s) (mk := 33) h (.inr rfl)
  cases m1 : markB s 64
  · cases m2 : markB s 33
    · have hn := srv_no m1 m2
      iterate 30 (all_goals (try (first
        | ((with_reducible refine of_kSpec ?_); refine call_fz (spec64_49 s hb) rfl ?_)
        | ((with_reducible refine of_kSpec ?_); refine call_fz (spec33_49 s hb) rfl ?_)
        | (with_reducible refine ite_in (fun _ => ?_) (fun _ => ?_))
        | (with_reducible refine ⟨fun _ => ?_, fun _ => ?_⟩)
        | (with_reducible refine And.intro ?_ ?_)
        | (with_reducible intro _)
        | (with_reducible exact is_in _)
        | (simp -implicitDefEqProofs only [SD, SF, SL, e_nf, reduceCtorEq, implies_true, ↓reduceIte, Nat.reduceEqDiff, Nat.reduceAdd, Nat.reduceMul, Nat.reduceSub, Nat.reduceLeDiff, Nat.reduceLT, Int.reduceLT, Int.reduceLE, Int.reduceEq, Int.reduceToNat, Int.reduceAdd, Int.reduceSub, Int.reduceNeg, Int.reduceBEq, Int.reduceBNe, Nat.reduceBEq, Int.cast_ofNat_Int, decide_true, decide_false, ne_eq, eq_self_iff_true, beq_eq_false_iff_ne, bne_iff_ne, List.replicate, *]))))
    · obtain ⟨h3, h4⟩ := h2 m2
      iterate 30 (all_goals (try (first
        | ((with_reducible refine of_kSpec ?_); refine call_fz (spec64_49 s hb) rfl ?_)
        | ((with_reducible refine of_kSpec ?_); refine call_fz (spec33_49 s hb) rfl ?_)
        | ((with_reducible refine of_kSpec ?_); refine call_fz (spec50 s) rfl ?_)
        | (with_reducible refine ite_in (fun _ => ?_) (fun _ => ?_))
        | (with_reducible refine ⟨fun _ => ?_, fun _ => ?_⟩)
        | (with_reducible refine And.intro ?_ ?_)
        | (with_reducible intro _)
        | (with_reducible exact is_in _)
        | (simp -implicitDefEqProofs only [SD, SF, SL, e_nf, reduceCtorEq, implies_true, ↓reduceIte, Nat.reduceEqDiff, Nat.reduceAdd, Nat.reduceMul, Nat.reduceSub, Nat.reduceLeDiff, Nat.reduceLT, Int.reduceLT, Int.reduceLE, Int.reduceEq, Int.reduceToNat, Int.reduceAdd, Int.reduceSub, Int.reduceNeg, Int.reduceBEq, Int.reduceBNe, Nat.reduceBEq, Int.cast_ofNat_Int, decide_true, decide_false, ne_eq, eq_self_iff_true, beq_eq_false_iff_ne, bne_iff_ne, List.replicate, List.take_length, *]))))
  · obtain ⟨h3, h4⟩ := h1 m1
    iterate 30 (all_goals (try (first
      | ((with_reducible refine of_kSpec ?_); refine call_fz (spec64_49 s hb) rfl ?_)
      | ((with_reducible refine of_kSpec ?_); refine call_fz (spec50 s) rfl ?_)
      | (with_reducible refine ite_in (fun _ => ?_) (fun _ => ?_))
      | (with_reducible refine ⟨fun _ => ?_, fun _ => ?_⟩)
      | (with_reducible refine And.intro ?_ ?_)
      | (with_reducible intro _)
      | (with_reducible exact is_in _)
      | (simp -implicitDefEqProofs only [SD, SF, SL, e_nf, reduceCtorEq, implies_true, ↓reduceIte, Nat.reduceEqDiff, Nat.reduceAdd, Nat.reduceMul, Nat.reduceSub, Nat.reduceLeDiff, Nat.reduceLT, Int.reduceLT, Int.reduceLE, Int.reduceEq, Int.reduceToNat, Int.reduceAdd, Int.reduceSub, Int.reduceNeg, Int.reduceBEq, Int.reduceBNe, Nat.reduceBEq, Int.cast_ofNat_Int, decide_true, decide_false, ne_eq, eq_self_iff_true, beq_eq_false_iff_ne, bne_iff_ne, List.replicate, List.take_length, *]))))

def ac51 : AC := (.seq (.ops [⟨(some 2), none, (.box (.t 0))⟩, ⟨(some 4), none, (.mv (.c (.bool false)))⟩]) (.seq (.ops [⟨(some 8), none, (.mv (.t 1))⟩, ⟨(some 9), none, (.call false 33 [(.t 8)])⟩, ⟨(some 7), none, (.mv (.t 9))⟩, ⟨(some 10), none, (.ext (.t 7) 0)⟩, ⟨(some 11), none, (.ext (.t 7) 1)⟩, ⟨(some 5), none, (.alloc [(.int .i64 0), (.str []), (.str []), (.int .i64 0), (.bool false), (.str []), (.int .i64 0), (.int .i64 0), .e0, .e0, (.str []), (.int .i64 0), (.int .i64 0), (.bool false), (.str []), .e0, .e0, .e0, .e0, (.int .i64 0), (.int .i64 0), (.int .i64 0), (.int .i64 0), (.int .i64 0), (.int .i64 0), (.int .i64 0), (.int .i64 0), (.str []), (.int .i64 0)])⟩, ⟨none, none, (.sto 29 (.t 5) (.t 10))⟩, ⟨(some 6), none, (.mv (.t 11))⟩]) (.seq (.draw (.q false ⟨(some 12), none, (.mv (.t 6))⟩ (.q false ⟨(some 13), none, (.mv (.t 12))⟩ (.q false ⟨(some 14), (some (13, true)), (.fld 8 (.t 2))⟩ (.q false ⟨(some 15), (some (13, true)), (.ld false 1 (.t 14))⟩ (.op ⟨(some 16), (some (13, true)), (.len (.t 15))⟩ (.q false ⟨(some 17), (some (13, true)), (.bin .eql (.t 16) (.c (.int .i64 1)))⟩ (.q false ⟨(some 18), none, (.pick (.t 13) (.t 17) (.c (.bool false)))⟩ (.q false ⟨(some 19), none, (.mv (.t 18))⟩ (.q false ⟨(some 20), (some (19, true)), (.fld 8 (.t 2))⟩ (.q false ⟨(some 21), (some (19, true)), (.ld false 1 (.t 20))⟩ (.q false ⟨(some 22), (some (19, true)), (.ix 1 (.t 21) (.c (.int .i64 0)))⟩ (.q false ⟨(some 23), (some (19, true)), (.ld false 1 (.t 22))⟩ (.q false ⟨(some 24), (some (19, true)), (.fld 0 (.t 5))⟩ (.q false ⟨(some 25), (some (19, true)), (.ld false 1 (.t 24))⟩ (.q false ⟨(some 26), (some (19, true)), (.bin .eql (.t 23) (.t 25))⟩ (.q false ⟨(some 27), none, (.pick (.t 19) (.t 26) (.c (.bool false)))⟩ (.q false ⟨(some 28), none, (.mv (.t 27))⟩ (.q false ⟨(some 29), (some (28, true)), (.fld 2 (.t 2))⟩ (.q false ⟨(some 30), (some (28, true)), (.ld false 1 (.t 29))⟩ (.q false ⟨(some 31), (some (28, true)), (.fld 2 (.t 5))⟩ (.q false ⟨(some 32), (some (28, true)), (.ld false 1 (.t 31))⟩ (.q false ⟨(some 33), (some (28, true)), (.bin .eql (.t 30) (.t 32))⟩ (.q false ⟨(some 34), none, (.pick (.t 28) (.t 33) (.c (.bool false)))⟩ (.q false ⟨(some 35), none, (.mv (.t 34))⟩ (.q false ⟨(some 36), (some (35, true)), (.fld 5 (.t 2))⟩ (.q false ⟨(some 37), (some (35, true)), (.ld false 1 (.t 36))⟩ (.q false ⟨(some 38), (some (35, true)), (.fld 2 (.t 5))⟩ (.q false ⟨(some 39), (some (35, true)), (.ld false 1 (.t 38))⟩ (.q false ⟨(some 40), (some (35, true)), (.bin .eql (.t 37) (.t 39))⟩ (.q false ⟨(some 41), none, (.pick (.t 35) (.t 40) (.c (.bool false)))⟩ (.q false ⟨(some 42), none, (.mv (.t 41))⟩ (.q false ⟨(some 43), (some (42, true)), (.fld 10 (.t 2))⟩ (.q false ⟨(some 44), (some (42, true)), (.fld 1 (.t 43))⟩ (.q false ⟨(some 45), (some (42, true)), (.ld false 1 (.t 44))⟩ (.q false ⟨(some 46), (some (42, true)), (.bin .eql (.t 45) (.c (.int .i64 3)))⟩ (.q false ⟨(some 47), none, (.pick (.t 42) (.t 46) (.c (.bool false)))⟩ (.q false ⟨(some 48), none, (.mv (.t 47))⟩ (.q false ⟨(some 49), (some (48, true)), (.mv (.t 1))⟩ (.q false ⟨(some 50), (some (48, true)), (.fld 5 (.t 2))⟩ (.q false ⟨(some 51), (some (48, true)), (.ld false 1 (.t 50))⟩ (.op ⟨(some 52), (some (48, true)), (.call false 76 [(.t 49), (.t 51)])⟩ (.q false ⟨(some 53), (some (48, true)), (.nt (.t 52))⟩ (.q false ⟨(some 54), none, (.pick (.t 48) (.t 53) (.c (.bool false)))⟩ (.q false ⟨(some 4), none, (.mv (.t 54))⟩ .nil))))))))))))))))))))))))))))))))))))))))))))) .ret)))
theorem tr51 : Tryz.f51.body.bind (trCode Tryz.prog) = some (strip ac51) := by kernel_rfl
theorem spec51 (e : Ev) (es : List Ev) : Spec Tryz.prog 51 [.fz (.agg (encEv e)), .fz (.sl 29 (es.map encEv))] (.fz (.bool (firstB e es))) := by
  refine spec_at (n := 53) (ars := [(.t 4)]) (ac := ac51) Tryz.func51 (by kernel_rfl) (by kernel_rfl) tr51 (by kernel_rfl) ?_
  unfold ac51
  rcases hpv : e.prev with _ | ⟨y, _ | ⟨z, l⟩⟩
  · have hf : firstB e es = false := by simp [firstB, hpv]
    iterate 30 (all_goals (try (first
      | ((with_reducible refine of_kSpec ?_); refine call_fz (spec33 es) rfl ?_)
      | (with_reducible refine ite_in (fun _ => ?_) (fun _ => ?_))
      | (with_reducible refine ⟨fun _ => ?_, fun _ => ?_⟩)
      | (with_reducible refine And.intro ?_ ?_)
      | (with_reducible intro _)
      | (with_reducible exact is_in _)
      | (simp -implicitDefEqProofs only [SD, SF, SL, e_nf, reduceCtorEq, implies_true, ↓reduceIte, Nat.reduceEqDiff, Nat.reduceAdd, Nat.reduceMul, Nat.reduceSub, Nat.reduceLeDiff, Nat.reduceLT, Int.reduceLT, Int.reduceLE, Int.reduceEq, Int.reduceToNat, Int.reduceAdd, Int.reduceSub, Int.reduceNeg, Int.reduceBEq, Int.reduceBNe, Nat.reduceBEq, Int.cast_ofNat_Int, decide_true, decide_false, ne_eq, eq_self_iff_true, beq_eq_false_iff_ne, bne_iff_ne, List.replicate, encEv, *]))))
  · have hf : firstB e es = (hasCre es && decide (y = (creEv es).ident) && decide (e.sender = (creEv es).sender) && decide (e.key = (creEv es).sender) && decide (e.n = 3) && !hasMem es e.key) := by simp [firstB, hpv]
    iterate 30 (all_goals (try (first
      | ((with_reducible refine of_kSpec ?_); refine call_fz (spec33 es) rfl ?_)
      | ((with_reducible refine of_kSpec ?_); refine call_fz (spec76 es _) rfl ?_)
      | (with_reducible refine ite_in (fun _ => ?_) (fun _ => ?_))
      | (with_reducible refine ⟨fun _ => ?_, fun _ => ?_⟩)
      | (with_reducible refine And.intro ?_ ?_)
      | (with_reducible intro _)
      | (with_reducible exact is_in _)
      | ((with_reducible refine eq_in ?_); (simp_all); done)
      | (simp -implicitDefEqProofs only [SD, SF, SL, e_nf, reduceCtorEq, implies_true, ↓reduceIte, Nat.reduceEqDiff, Nat.reduceAdd, Nat.reduceMul, Nat.reduceSub, Nat.reduceLeDiff, Nat.reduceLT, Int.reduceLT, Int.reduceLE, Int.reduceEq, Int.reduceToNat, Int.reduceAdd, Int.reduceSub, Int.reduceNeg, Int.reduceBEq, Int.reduceBNe, Nat.reduceBEq, Int.cast_ofNat_Int, decide_true, decide_false, ne_eq, eq_self_iff_true, beq_eq_false_iff_ne, bne_iff_ne, List.replicate, encEv, encN, *]))))
    all_goals (simp_all)
  · have hf : firstB e es = false := by simp [firstB, hpv]
    have hn : ¬ (((y :: z :: l).length : Int) = 1) := by simp only [List.length_cons]; omega
    generalize y :: z :: l = ls at *
    iterate 30 (all_goals (try (first
      | ((with_reducible refine of_kSpec ?_); refine call_fz (spec33 es) rfl ?_)
      | (with_reducible refine ite_in (fun _ => ?_) (fun _ => ?_))
      | (with_reducible refine ⟨fun _ => ?_, fun _ => ?_⟩)
      | (with_reducible refine And.intro ?_ ?_)
      | (with_reducible intro _)
      | (with_reducible exact is_in _)
      | (simp -implicitDefEqProofs only [SD, SF, SL, e_nf, reduceCtorEq, implies_true, ↓reduceIte, Nat.reduceEqDiff, Nat.reduceAdd, Nat.reduceMul, Nat.reduceSub, Nat.reduceLeDiff, Nat.reduceLT, Int.reduceLT, Int.reduceLE, Int.reduceEq, Int.reduceToNat, Int.reduceAdd, Int.reduceSub, Int.reduceNeg, Int.reduceBEq, Int.reduceBNe, Nat.reduceBEq, Int.cast_ofNat_Int, decide_true, decide_false, ne_eq, eq_self_iff_true, beq_eq_false_iff_ne, bne_iff_ne, List.replicate, encEv, *]))))

def ac86 : AC := (.seq (.ops [⟨(some 2), none, (.box (.t 0))⟩, ⟨(some 4), none, (.mv (.c (.bool false)))⟩]) (.seq (.ops [⟨(some 10), none, (.mv (.t 1))⟩, ⟨(some 11), none, (.call false 67 [(.t 10)])⟩, ⟨(some 9), none, (.mv (.t 11))⟩, ⟨(some 12), none, (.ext (.t 9) 0)⟩, ⟨(some 13), none, (.ext (.t 9) 1)⟩, ⟨(some 5), none, (.alloc [(.int .i64 0), (.str []), (.str []), (.int .i64 0), (.bool false), (.str []), (.int .i64 0), (.int .i64 0), .e0, .e0, (.str []), (.int .i64 0), (.int .i64 0), (.bool false), (.str []), .e0, .e0, .e0, .e0, (.int .i64 0), (.int .i64 0), (.int .i64 0), (.int .i64 0), (.int .i64 0), (.int .i64 0), (.int .i64 0), (.int .i64 0), (.str []), (.int .i64 0)])⟩, ⟨none, none, (.sto 29 (.t 5) (.t 12))⟩, ⟨(some 6), none, (.mv (.t 13))⟩]) (.seq (.seq (.draw (.q false ⟨(some 14), none, (.mv (.t 6))⟩ (.q false ⟨(some 15), none, (.nt (.t 14))⟩ (.q false ⟨(some 16), none, (.mv (.t 15))⟩ (.q false ⟨(some 17), (some (16, false)), (.fld 8 (.t 2))⟩ (.q false ⟨(some 18), (some (16, false)), (.ld false 1 (.t 17))⟩ (.op ⟨(some 19), (some (16, false)), (.len (.t 18))⟩ (.q false ⟨(some 20), (some (16, false)), (.bin .neq (.t 19) (.c (.int .i64 1)))⟩ (.q false ⟨(some 21), none, (.pick (.t 16) (.c (.bool true)) (.t 20))⟩ (.q false ⟨(some 22), none, (.mv (.t 21))⟩ (.q false ⟨(some 23), (some (22, false)), (.fld 8 (.t 2))⟩ (.q false ⟨(some 24), (some (22, false)), (.ld false 1 (.t 23))⟩ (.q false ⟨(some 25), (some (22, false)), (.ix 1 (.t 24) (.c (.int .i64 0)))⟩ (.q false ⟨(some 26), (some (22, false)), (.ld false 1 (.t 25))⟩ (.q false ⟨(some 27), (some (22, false)), (.fld 0 (.t 5))⟩ (.q false ⟨(some 28), (some (22, false)), (.ld false 1 (.t 27))⟩ (.q false ⟨(some 29), (some (22, false)), (.bin .neq (.t 26) (.t 28))⟩ (.q false ⟨(some 30), none, (.pick (.t 22) (.c (.bool true)) (.t 29))⟩ (.q false ⟨(some 31), none, (.mv (.t 30))⟩ (.q false ⟨(some 32), (some (31, false)), (.fld 2 (.t 2))⟩ (.q false ⟨(some 33), (some (31, false)), (.ld false 1 (.t 32))⟩ (.q false ⟨(some 34), (some (31, false)), (.fld 2 (.t 5))⟩ (.q false ⟨(some 35), (some (31, false)), (.ld false 1 (.t 34))⟩ (.q false ⟨(some 36), (some (31, false)), (.bin .neq (.t 33) (.t 35))⟩ (.q false ⟨(some 37), none, (.pick (.t 31) (.c (.bool true)) (.t 36))⟩ (.q false ⟨(some 38), none, (.mv (.t 37))⟩ (.q false ⟨(some 39), (some (38, false)), (.fld 5 (.t 2))⟩ (.q false ⟨(some 40), (some (38, false)), (.ld false 1 (.t 39))⟩ (.q false ⟨(some 41), (some (38, false)), (.fld 2 (.t 5))⟩ (.q false ⟨(some 42), (some (38, false)), (.ld false 1 (.t 41))⟩ (.q false ⟨(some 43), (some (38, false)), (.bin .neq (.t 40) (.t 42))⟩ (.q false ⟨(some 44), none, (.pick (.t 38) (.c (.bool true)) (.t 43))⟩ (.q false ⟨(some 45), none, (.mv (.t 44))⟩ (.q false ⟨(some 46), (some (45, false)), (.fld 10 (.t 2))⟩ (.q false ⟨(some 47), (some (45, false)), (.fld 1 (.t 46))⟩ (.q false ⟨(some 48), (some (45, false)), (.ld false 1 (.t 47))⟩ (.q false ⟨(some 49), (some (45, false)), (.bin .neq (.t 48) (.c (.int .i64 3)))⟩ (.q false ⟨(some 50), none, (.pick (.t 45) (.c (.bool true)) (.t 49))⟩ .nil)))))))))))))))))))))))))))))))))))))) (.cond (.t 50) (.seq (.ops [⟨(some 4), none, (.mv (.c (.bool false)))⟩]) .ret) .skip)) (.seq (.seq (.ops [⟨(some 51), none, (.mv (.t 1))⟩, ⟨(some 52), none, (.len (.t 51))⟩, ⟨(some 53), none, (.mv (.c (.int .i64 0)))⟩]) (.block 0 (.loop (.seq (.ops [⟨(some 54), none, (.bin .lss (.t 53) (.t 52))⟩]) (.seq (.cond (.t 54) .skip (.exit 0)) (.seq (.block 1 (.seq (.ops [⟨(some 55), none, (.ix 29 (.t 51) (.t 53))⟩, ⟨(some 56), none, (.ld true 29 (.t 55))⟩, ⟨(some 8), none, (.alloc [(.int .i64 0), (.str []), (.str []), (.int .i64 0), (.bool false), (.str []), (.int .i64 0), (.int .i64 0), .e0, .e0, (.str []), (.int .i64 0), (.int .i64 0), (.bool false), (.str []), .e0, .e0, .e0, .e0, (.int .i64 0), (.int .i64 0), (.int .i64 0), (.int .i64 0), (.int .i64 0), (.int .i64 0), (.int .i64 0), (.int .i64 0), (.str []), (.int .i64 0)])⟩, ⟨none, none, (.sto 29 (.t 8) (.t 56))⟩]) (.seq (.ops [⟨(some 57), none, (.fld 3 (.t 8))⟩, ⟨(some 58), none, (.ld false 1 (.t 57))⟩, ⟨(some 59), none, (.bin .eql (.t 58) (.c (.int .i64 2)))⟩, ⟨(some 60), none, (.mv (.t 59))⟩, ⟨(some 61), (some (60, true)), (.fld 5 (.t 8))⟩, ⟨(some 62), (some (60, true)), (.ld false 1 (.t 61))⟩, ⟨(some 63), (some (60, true)), (.fld 5 (.t 2))⟩, ⟨(some 64), (some (60, true)), (.ld false 1 (.t 63))⟩, ⟨(some 65), (some (60, true)), (.bin .eql (.t 62) (.t 64))⟩, ⟨(some 66), none, (.pick (.t 60) (.t 65) (.c (.bool false)))⟩]) (.cond (.t 66) (.seq (.ops [⟨(some 4), none, (.mv (.c (.bool false)))⟩]) .ret) .skip)))) (.ops [⟨(some 67), none, (.bin .add (.t 53) (.c (.int .i64 1)))⟩, ⟨(some 53), none, (.mv (.t 67))⟩]))))))) (.seq (.ops [⟨(some 4), none, (.mv (.c (.bool true)))⟩]) .ret)))))
theorem tr86 : Tryz.f86.body.bind (trCode Tryz.prog) = some (strip ac86) := by kernel_rfl
theorem spec86 (e : Ev) (es : List Ev) : Spec Tryz.prog 86 [.fz (.agg (encEv e)), .fz (.sl 29 (es.map encEv))] (.fz (.bool (firstB e es))) := by
  refine spec_at (n := 66) (ars := [(.t 4)]) (ac := ac86) Tryz.func86 (by kernel_rfl) (by kernel_rfl) tr86 (by kernel_rfl) ?_
  unfold ac86
  rcases hpv : e.prev with _ | ⟨y, _ | ⟨z, l⟩⟩
  · have hf : firstB e es = false := by simp [firstB, hpv]
    iterate 30 (all_goals (try (first
      | ((with_reducible refine of_kSpec ?_); refine call_fz (spec67 es) rfl ?_)
      | (with_reducible refine ite_in (fun _ => ?_) (fun _ => ?_))
      | (with_reducible refine ⟨fun _ => ?_, fun _ => ?_⟩)
      | (with_reducible refine And.intro ?_ ?_)
      | (with_reducible intro _)
      | (with_reducible exact is_in _)
      | (simp -implicitDefEqProofs only [SD, SF, SL, e_nf, reduceCtorEq, implies_true, ↓reduceIte, Nat.reduceEqDiff, Nat.reduceAdd, Nat.reduceMul, Nat.reduceSub, Nat.reduceLeDiff, Nat.reduceLT, Int.reduceLT, Int.reduceLE, Int.reduceEq, Int.reduceToNat, Int.reduceAdd, Int.reduceSub, Int.reduceNeg, Int.reduceBEq, Int.reduceBNe, Nat.reduceBEq, Int.cast_ofNat_Int, decide_true, decide_false, ne_eq, eq_self_iff_true, beq_eq_false_iff_ne, bne_iff_ne, List.replicate, encEv, *]))))
  · have hf : firstB e es = (hasCre es && decide (y = (creEv es).ident) && decide (e.sender = (creEv es).sender) && decide (e.key = (creEv es).sender) && decide (e.n = 3) && !hasMem es e.key) := by simp [firstB, hpv]
    by_cases hc : hasCre es = true ∧ y = (creEv es).ident ∧ e.sender = (creEv es).sender ∧ e.key = (creEv es).sender ∧ e.n = 3
    · have hf : firstB e es = !hasMem es (creEv es).sender := by rw [hf]; simp [hc]
      obtain ⟨hc1, rfl, hc3, hc4, hc5⟩ := hc
      iterate 30 (all_goals (try (first
        | ((with_reducible refine of_kSpec ?_); refine call_fz (spec67 es) rfl ?_)
        | (with_reducible refine ite_in (fun _ => ?_) (fun _ => ?_))
        | (with_reducible refine ⟨fun _ => ?_, fun _ => ?_⟩)
        | (with_reducible refine And.intro ?_ ?_)
        | (with_reducible intro _)
        | (with_reducible exact is_in _)
        | (simp -implicitDefEqProofs only [SD, SF, SL, e_nf, reduceCtorEq, implies_true, ↓reduceIte, Nat.reduceEqDiff, Nat.reduceAdd, Nat.reduceMul, Nat.reduceSub, Nat.reduceLeDiff, Nat.reduceLT, Int.reduceLT, Int.reduceLE, Int.reduceEq, Int.reduceToNat, Int.reduceAdd, Int.reduceSub, Int.reduceNeg, Int.reduceBEq, Int.reduceBNe, Nat.reduceBEq, Int.cast_ofNat_Int, decide_true, decide_false, ne_eq, eq_self_iff_true, beq_eq_false_iff_ne, bne_iff_ne, List.replicate, encEv, encN, *]))))
      rename_i hl
      clear hc4
      refine loop_q (X := List Ev × List Ev × Unit) (fun n x => es = x.1 ++ x.2.1 ∧ n = x.2.1.length ∧ (hasMem es (creEv es).sender = hasMem x.2.1 (creEv es).sender)) (fun x => [(53, .int .i64 x.1.length)]) (fun _ => []) [4, 8, 54, 55, 56, 57, 58, 59, 60, 61, 62, 63, 64, 65, 66, 67] [8]  (es).length ([], es, ()) ⟨rfl, rfl, by first | rfl | assumption | (simp_all [hasMem]; done) | grind [hasMem]⟩ ?_ ?_
      · simp -implicitDefEqProofs only [SD, SF, SL, e_nf, reduceCtorEq, implies_true, ↓reduceIte, Nat.reduceEqDiff, Nat.reduceAdd, Nat.reduceMul, Nat.reduceSub, Nat.reduceLeDiff, Nat.reduceLT, Int.reduceLT, Int.reduceLE, Int.reduceEq, Int.reduceToNat, Int.reduceAdd, Int.reduceSub, Int.reduceNeg, Int.reduceBEq, Int.reduceBNe, Nat.reduceBEq, Int.cast_ofNat_Int, decide_true, decide_false, ne_eq, eq_self_iff_true, beq_eq_false_iff_ne, bne_iff_ne, List.replicate, hasMem] <;> simp
      · rintro n ⟨pre, rest, a⟩ ⟨he, rfl, hI⟩
        dsimp only at he hI
        cases rest with
        | nil =>
          obtain rfl : es = pre := by simpa using he
          clear he
          have hlt : ¬ (((es).length : Int) < ((es).length : Int)) := Int.lt_irrefl _
          iterate 30 (all_goals (try (first
            | (with_reducible refine ite_in (fun _ => ?_) (fun _ => ?_))
            | (with_reducible refine ⟨fun _ => ?_, fun _ => ?_⟩)
            | (with_reducible refine And.intro ?_ ?_)
            | (with_reducible intro _)
            | (with_reducible exact is_in _)
            | (simp -implicitDefEqProofs only [SD, SF, SL, e_nf, reduceCtorEq, implies_true, ↓reduceIte, Nat.reduceEqDiff, Nat.reduceAdd, Nat.reduceMul, Nat.reduceSub, Nat.reduceLeDiff, Nat.reduceLT, Int.reduceLT, Int.reduceLE, Int.reduceEq, Int.reduceToNat, Int.reduceAdd, Int.reduceSub, Int.reduceNeg, Int.reduceBEq, Int.reduceBNe, Nat.reduceBEq, Int.cast_ofNat_Int, decide_true, decide_false, ne_eq, eq_self_iff_true, beq_eq_false_iff_ne, bne_iff_ne, List.replicate, hasMem, *]))))
          all_goals (simp_all [hasMem])

        | cons x rest =>
          have hlt := cut_lt he
          have hx := cutD encEv he
          simp only [encEv] at hx
          have hw := wrap_len (n := pre.length) (m := (es).length) (cut_lt' he) (by simpa using hl)
          replace he := Hd.mk he
          iterate 30 (all_goals (try (first
            | ((with_reducible refine back_in rest.length [4, 8, 54, 55, 56, 57, 58, 59, 60, 61, 62, 63, 64, 65, 66, 67] [8] (pre ++ [x], rest, a) ?_ ⟨?_, ?_, ?_⟩ ?_)
               · simp
               · exact cut_snoc he.out
               · rfl
               · first | rfl | assumption | (simp_all [hasMem]; done) | grind [hasMem]
               · first | (simp -implicitDefEqProofs only [SD, SF, SL, e_nf, reduceCtorEq, implies_true, ↓reduceIte, Nat.reduceEqDiff, Nat.reduceAdd, Nat.reduceMul, Nat.reduceSub, Nat.reduceLeDiff, Nat.reduceLT, Int.reduceLT, Int.reduceLE, Int.reduceEq, Int.reduceToNat, Int.reduceAdd, Int.reduceSub, Int.reduceNeg, Int.reduceBEq, Int.reduceBNe, Nat.reduceBEq, Int.cast_ofNat_Int, decide_true, decide_false, ne_eq, eq_self_iff_true, beq_eq_false_iff_ne, bne_iff_ne, List.replicate, hasMem] <;> simp <;> done) | (simp -implicitDefEqProofs only [SD, SF, SL, e_nf, reduceCtorEq, implies_true, ↓reduceIte, Nat.reduceEqDiff, Nat.reduceAdd, Nat.reduceMul, Nat.reduceSub, Nat.reduceLeDiff, Nat.reduceLT, Int.reduceLT, Int.reduceLE, Int.reduceEq, Int.reduceToNat, Int.reduceAdd, Int.reduceSub, Int.reduceNeg, Int.reduceBEq, Int.reduceBNe, Nat.reduceBEq, Int.cast_ofNat_Int, decide_true, decide_false, ne_eq, eq_self_iff_true, beq_eq_false_iff_ne, bne_iff_ne, List.replicate, hasMem, *] <;> simp_all <;> done))
            | (with_reducible refine ite_in (fun _ => ?_) (fun _ => ?_))
            | (with_reducible refine ⟨fun _ => ?_, fun _ => ?_⟩)
            | (with_reducible refine And.intro ?_ ?_)
            | (with_reducible intro _)
            | (with_reducible exact is_in _)
            | (simp -implicitDefEqProofs only [SD, SF, SL, e_nf, reduceCtorEq, implies_true, ↓reduceIte, Nat.reduceEqDiff, Nat.reduceAdd, Nat.reduceMul, Nat.reduceSub, Nat.reduceLeDiff, Nat.reduceLT, Int.reduceLT, Int.reduceLE, Int.reduceEq, Int.reduceToNat, Int.reduceAdd, Int.reduceSub, Int.reduceNeg, Int.reduceBEq, Int.reduceBNe, Nat.reduceBEq, Int.cast_ofNat_Int, decide_true, decide_false, ne_eq, eq_self_iff_true, beq_eq_false_iff_ne, bne_iff_ne, List.replicate, hasMem, *]))))
          all_goals (simp_all [hasMem])
    · have hf : firstB e es = false := by
        rw [hf]
        cases h1 : hasCre es <;> simp [h1] <;> grind
      iterate 30 (all_goals (try (first
        | ((with_reducible refine of_kSpec ?_); refine call_fz (spec67 es) rfl ?_)
        | (with_reducible refine ite_in (fun _ => ?_) (fun _ => ?_))
        | (with_reducible refine ⟨fun _ => ?_, fun _ => ?_⟩)
        | (with_reducible refine And.intro ?_ ?_)
        | (with_reducible intro _)
        | (with_reducible exact is_in _)
        | ((with_reducible refine eq_in ?_); (first | (simp_all; done) | grind); done)
        | (simp -implicitDefEqProofs only [SD, SF, SL, e_nf, reduceCtorEq, implies_true, ↓reduceIte, Nat.reduceEqDiff, Nat.reduceAdd, Nat.reduceMul, Nat.reduceSub, Nat.reduceLeDiff, Nat.reduceLT, Int.reduceLT, Int.reduceLE, Int.reduceEq, Int.reduceToNat, Int.reduceAdd, Int.reduceSub, Int.reduceNeg, Int.reduceBEq, Int.reduceBNe, Nat.reduceBEq, Int.cast_ofNat_Int, decide_true, decide_false, ne_eq, eq_self_iff_true, beq_eq_false_iff_ne, bne_iff_ne, List.replicate, encEv, encN, *]))))
      all_goals (first | (simp_all; done) | grind)
  · have hf : firstB e es = false := by simp [firstB, hpv]
    have hn : ¬ (((y :: z :: l).length : Int) = 1) := by simp only [List.length_cons]; omega
    generalize y :: z :: l = ls at *
    iterate 30 (all_goals (try (first
      | ((with_reducible refine of_kSpec ?_); refine call_fz (spec67 es) rfl ?_)
      | (with_reducible refine ite_in (fun _ => ?_) (fun _ => ?_))
      | (with_reducible refine ⟨fun _ => ?_, fun _ => ?_⟩)
      | (with_reducible refine And.intro ?_ ?_)
      | (with_reducible intro _)
      | (with_reducible exact is_in _)
      | (simp -implicitDefEqProofs only [SD, SF, SL, e_nf, reduceCtorEq, implies_true, ↓reduceIte, Nat.reduceEqDiff, Nat.reduceAdd, Nat.reduceMul, Nat.reduceSub, Nat.reduceLeDiff, Nat.reduceLT, Int.reduceLT, Int.reduceLE, Int.reduceEq, Int.reduceToNat, Int.reduceAdd, Int.reduceSub, Int.reduceNeg, Int.reduceBEq, Int.reduceBNe, Nat.reduceBEq, Int.cast_ofNat_Int, decide_true, decide_false, ne_eq, eq_self_iff_true, beq_eq_false_iff_ne, bne_iff_ne, List.replicate, encEv, *]))))


end Go.Proofs.YtcolebkklojccaaGreat.E

namespace Go.Proofs.YtcolebkklojccaaGreat.E
open Go
set_option maxHeartbeats 4000000
set_option maxRecDepth 100000
set_option linter.unusedSimpArgs false
set_option linter.unusedVariables false
attribute [local congr] c_wp c_ops c_op c_opS c_run c_runS c_dt c_seq c_blk c_loop c_S c_put c_bind c_mv c_pick c_nt c_ng c_bin c_binI c_binS c_beq c_B c_eqa c_hd c_cells c_blkK c_box c_vec c_mp c_nck c_mks c_appn c_mkm c_mput c_mlk c_mrm c_take c_ld c_ldF c_cellsK c_st c_fld c_fldv c_ix c_ixp c_ixv c_ixs c_sub c_subs c_len c_lens c_src c_dst c_ow c_app c_ext c_mm c_conv c_str c_isn c_fill c_rows c_boxo c_frz c_frzO c_frzA c_frzV c_spec c_specO c_opsP c_opP c_runP c_specP c_Z c_qretP c_fz c_fn c_gv c_cond c_res1 c_resL c_ret c_qret c_ite c_unr c_nx c_bk c_cut c_is
attribute [local irreducible] dwp
def ac54 : AC := (.seq (.ops [⟨(some 3), none, (.box (.t 0))⟩, ⟨(some 6), none, (.mv (.c (.int .i64 0)))⟩]) (.seq (.seq (.ops [⟨(some 12), none, (.mv (.t 1))⟩, ⟨(some 13), none, (.fld 2 (.t 3))⟩, ⟨(some 14), none, (.ld false 1 (.t 13))⟩, ⟨(some 15), none, (.call false 36 [(.t 12), (.t 14)])⟩, ⟨(some 16), none, (.bin .neq (.t 15) (.c (.int .i64 3)))⟩]) (.cond (.t 16) (.seq (.ops [⟨(some 6), none, (.mv (.c (.int .i64 18)))⟩]) .ret) .skip)) (.seq (.ops [⟨(some 18), none, (.mv (.t 1))⟩, ⟨(some 19), none, (.call false 55 [(.t 18)])⟩, ⟨(some 17), none, (.mv (.t 19))⟩, ⟨(some 20), none, (.ext (.t 17) 0)⟩, ⟨(some 21), none, (.ext (.t 17) 1)⟩, ⟨(some 7), none, (.alloc [.e0, .e0, (.int .i64 0), (.int .i64 0), (.int .i64 0), (.int .i64 0), (.int .i64 0), (.int .i64 0), (.int .i64 0)])⟩, ⟨none, none, (.sto 9 (.t 7) (.t 20))⟩, ⟨(some 8), none, (.mv (.t 21))⟩]) (.seq (.draw (.q false ⟨(some 22), none, (.ld true 9 (.t 7))⟩ (.q false ⟨(some 23), none, (.fld 2 (.t 3))⟩ (.q false ⟨(some 24), none, (.ld false 1 (.t 23))⟩ (.q false ⟨(some 26), none, (.ld true 9 (.t 7))⟩ (.q false ⟨(some 27), none, (.fld 5 (.t 3))⟩ (.q false ⟨(some 28), none, (.ld false 1 (.t 27))⟩ (.op ⟨(some 25), none, (.call false 56 [(.t 22), (.t 24)])⟩ (.op ⟨(some 29), none, (.call false 56 [(.t 26), (.t 28)])⟩ (.q false ⟨(some 9), none, (.mv (.t 25))⟩ (.q false ⟨(some 10), none, (.mv (.t 29))⟩ .nil))))))))))) (.seq (.ops [⟨(some 30), none, (.fld 10 (.t 3))⟩, ⟨(some 31), none, (.fld 1 (.t 30))⟩, ⟨(some 32), none, (.ld false 1 (.t 31))⟩, ⟨(some 11), none, (.mv (.t 32))⟩]) (.seq (.seq (.ops [⟨(some 33), none, (.mv (.t 11))⟩, ⟨(some 34), none, (.bin .eql (.t 33) (.c (.int .i64 1)))⟩, ⟨(some 35), none, (.mv (.t 34))⟩, ⟨(some 36), (some (35, true)), (.mv (.t 9))⟩, ⟨(some 37), (some (35, true)), (.fld 5 (.t 7))⟩, ⟨(some 38), (some (35, true)), (.ld false 1 (.t 37))⟩, ⟨(some 39), (some (35, true)), (.bin .lss (.t 36) (.t 38))⟩, ⟨(some 40), none, (.pick (.t 35) (.t 39) (.c (.bool false)))⟩]) (.cond (.t 40) (.seq (.ops [⟨(some 6), none, (.mv (.c (.int .i64 20)))⟩]) .ret) .skip)) (.seq (.seq (.ops [⟨(some 41), none, (.mv (.t 11))⟩, ⟨(some 42), none, (.bin .eql (.t 41) (.c (.int .i64 0)))⟩, ⟨(some 43), none, (.mv (.t 42))⟩, ⟨(some 44), (some (43, true)), (.mv (.t 2))⟩, ⟨(some 45), (some (43, true)), (.bin .eql (.t 44) (.c (.int .i64 4)))⟩, ⟨(some 46), (some (43, true)), (.mv (.t 45))⟩, ⟨(some 47), (some (46, true)), (.mv (.t 9))⟩, ⟨(some 48), (some (46, true)), (.fld 7 (.t 7))⟩, ⟨(some 49), (some (46, true)), (.ld false 1 (.t 48))⟩, ⟨(some 50), (some (46, true)), (.bin .lss (.t 47) (.t 49))⟩, ⟨(some 51), (some (43, true)), (.pick (.t 46) (.t 50) (.c (.bool false)))⟩, ⟨(some 52), (some (43, true)), (.mv (.t 51))⟩, ⟨(some 53), (some (52, false)), (.mv (.t 9))⟩, ⟨(some 54), (some (52, false)), (.fld 6 (.t 7))⟩, ⟨(some 55), (some (52, false)), (.ld false 1 (.t 54))⟩, ⟨(some 56), (some (52, false)), (.bin .lss (.t 53) (.t 55))⟩, ⟨(some 57), (some (43, true)), (.pick (.t 52) (.c (.bool true)) (.t 56))⟩, ⟨(some 58), (some (43, true)), (.mv (.t 57))⟩, ⟨(some 59), (some (58, false)), (.mv (.t 10))⟩, ⟨(some 60), (some (58, false)), (.mv (.t 9))⟩, ⟨(some 61), (some (58, false)), (.bin .geq (.t 59) (.t 60))⟩, ⟨(some 62), (some (43, true)), (.pick (.t 58) (.c (.bool true)) (.t 61))⟩, ⟨(some 63), none, (.pick (.t 43) (.t 62) (.c (.bool false)))⟩]) (.cond (.t 63) (.seq (.ops [⟨(some 6), none, (.mv (.c (.int .i64 20)))⟩]) .ret) .skip)) (.seq (.seq (.ops [⟨(some 64), none, (.mv (.t 11))⟩, ⟨(some 65), none, (.bin .eql (.t 64) (.c (.int .i64 4)))⟩, ⟨(some 66), none, (.mv (.t 65))⟩, ⟨(some 67), (some (66, true)), (.mv (.t 9))⟩, ⟨(some 68), (some (66, true)), (.fld 7 (.t 7))⟩, ⟨(some 69), (some (66, true)), (.ld false 1 (.t 68))⟩, ⟨(some 70), (some (66, true)), (.bin .lss (.t 67) (.t 69))⟩, ⟨(some 71), (some (66, true)), (.mv (.t 70))⟩, ⟨(some 72), (some (71, false)), (.mv (.t 10))⟩, ⟨(some 73), (some (71, false)), (.mv (.t 9))⟩, ⟨(some 74), (some (71, false)), (.bin .geq (.t 72) (.t 73))⟩, ⟨(some 75), (some (66, true)), (.pick (.t 71) (.c (.bool true)) (.t 74))⟩, ⟨(some 76), none, (.pick (.t 66) (.t 75) (.c (.bool false)))⟩]) (.cond (.t 76) (.seq (.ops [⟨(some 6), none, (.mv (.c (.int .i64 20)))⟩]) .ret) .skip)) (.seq (.ops [⟨(some 6), none, (.mv (.c (.int .i64 0)))⟩]) .ret)))))))))
theorem tr54 : Tryz.f54.body.bind (trCode Tryz.prog) = some (strip ac54) := by kernel_rfl
theorem spec54 (e : Ev) (es : List Ev) (now : Int) : Spec Tryz.prog 54 [.fz (.agg (encEv e)), .fz (.sl 29 (es.map encEv)), .fz (.int .i64 now)] (.fz (.int .i64 (othR e es now))) := by
  refine spec_at (n := 74) (ars := [(.t 6)]) (ac := ac54) Tryz.func54 (by kernel_rfl) (by kernel_rfl) tr54 (by kernel_rfl) ?_
  unfold ac54
  iterate 40 (all_goals (try (first
    | ((with_reducible refine of_kSpec ?_); refine call_fz (spec36 es e.sender) rfl ?_)
    | ((with_reducible refine of_kSpec ?_); refine call_fz (spec55 es) rfl ?_)
    | ((with_reducible refine of_kSpec ?_); refine call_fz (spec56 (levelsL es) e.sender) rfl ?_)
    | ((with_reducible refine of_kSpec ?_); refine call_fz (spec56 (levelsL es) e.key) rfl ?_)
    | (with_reducible refine ite_in (fun _ => ?_) (fun _ => ?_))
    | (with_reducible refine ⟨fun _ => ?_, fun _ => ?_⟩)
    | (with_reducible refine And.intro ?_ ?_)
    | (with_reducible intro _)
    | (with_reducible exact is_in _)
    | ((with_reducible refine eq_in ?_); ((first | (simp_all [othR, userV]; done) | grind [othR, userV])); done)
    | (simp -implicitDefEqProofs only [SD, SF, SL, e_nf, reduceCtorEq, implies_true, ↓reduceIte, Nat.reduceEqDiff, Nat.reduceAdd, Nat.reduceMul, Nat.reduceSub, Nat.reduceLeDiff, Nat.reduceLT, Int.reduceLT, Int.reduceLE, Int.reduceEq, Int.reduceToNat, Int.reduceAdd, Int.reduceSub, Int.reduceNeg, Int.reduceBEq, Int.reduceBNe, Nat.reduceBEq, Int.cast_ofNat_Int, decide_true, decide_false, ne_eq, eq_self_iff_true, beq_eq_false_iff_ne, bne_iff_ne, List.replicate, encEv, encLv, *]))))
def ac35 : AC := (.seq (.ops [⟨(some 2), none, (.box (.t 0))⟩, ⟨(some 4), none, (.mv (.c (.int .i64 0)))⟩]) (.seq (.seq (.ops [⟨(some 7), none, (.ld true 29 (.t 2))⟩, ⟨(some 8), none, (.mv (.t 1))⟩, ⟨(some 9), none, (.call false 51 [(.t 7), (.t 8)])⟩]) (.cond (.t 9) (.seq (.ops [⟨(some 4), none, (.mv (.c (.int .i64 0)))⟩]) .ret) .skip)) (.seq (.ops [⟨(some 10), none, (.mv (.t 1))⟩, ⟨(some 11), none, (.fld 5 (.t 2))⟩, ⟨(some 12), none, (.ld false 1 (.t 11))⟩, ⟨(some 13), none, (.call false 36 [(.t 10), (.t 12)])⟩, ⟨(some 5), none, (.mv (.t 13))⟩]) (.seq (.ops [⟨(some 14), none, (.fld 5 (.t 2))⟩, ⟨(some 15), none, (.ld false 1 (.t 14))⟩, ⟨(some 16), none, (.fld 2 (.t 2))⟩, ⟨(some 17), none, (.ld false 1 (.t 16))⟩, ⟨(some 18), none, (.bin .eql (.t 15) (.t 17))⟩, ⟨(some 6), none, (.mv (.t 18))⟩]) (.seq (.seq (.ops [⟨(some 19), none, (.mv (.t 6))⟩, ⟨(some 20), none, (.mv (.t 19))⟩, ⟨(some 21), (some (20, true)), (.mv (.t 5))⟩, ⟨(some 22), (some (20, true)), (.bin .eql (.t 21) (.c (.int .i64 4)))⟩, ⟨(some 23), none, (.pick (.t 20) (.t 22) (.c (.bool false)))⟩]) (.cond (.t 23) (.seq (.ops [⟨(some 4), none, (.mv (.c (.int .i64 19)))⟩]) .ret) .skip)) (.seq (.seq (.ops [⟨(some 24), none, (.mv (.t 5))⟩, ⟨(some 25), none, (.fld 10 (.t 2))⟩, ⟨(some 26), none, (.fld 1 (.t 25))⟩, ⟨(some 27), none, (.ld false 1 (.t 26))⟩, ⟨(some 28), none, (.mv (.t 6))⟩, ⟨(some 29), none, (.call false 52 [(.t 24), (.t 27), (.t 28)])⟩, ⟨(some 30), none, (.nt (.t 29))⟩]) (.cond (.t 30) (.seq (.ops [⟨(some 4), none, (.mv (.c (.int .i64 18)))⟩]) .ret) .skip)) (.seq (.seq (.ops [⟨(some 31), none, (.mv (.t 6))⟩]) (.cond (.t 31) (.seq (.ops [⟨(some 32), none, (.ld true 29 (.t 2))⟩, ⟨(some 33), none, (.mv (.t 1))⟩, ⟨(some 34), none, (.mv (.t 5))⟩, ⟨(some 35), none, (.call false 53 [(.t 32), (.t 33), (.t 34)])⟩, ⟨(some 4), none, (.mv (.t 35))⟩]) .ret) .skip)) (.seq (.ops [⟨(some 36), none, (.ld true 29 (.t 2))⟩, ⟨(some 37), none, (.mv (.t 1))⟩, ⟨(some 38), none, (.mv (.t 5))⟩, ⟨(some 39), none, (.call false 54 [(.t 36), (.t 37), (.t 38)])⟩, ⟨(some 4), none, (.mv (.t 39))⟩]) .ret))))))))
theorem tr35 : Tryz.f35.body.bind (trCode Tryz.prog) = some (strip ac35) := by kernel_rfl
theorem spec35 (e : Ev) (es : List Ev) (ha : ∀ e ∈ es, e.allow.length ≤ 1000) : Spec Tryz.prog 35 [.fz (.agg (encEv e)), .fz (.sl 29 (es.map encEv))] (.fz (.int .i64 (memR e es))) := by
  refine spec_at (n := 38) (ars := [(.t 4)]) (ac := ac35) Tryz.func35 (by kernel_rfl) (by kernel_rfl) tr35 (by kernel_rfl) ?_
  unfold ac35
  iterate 40 (all_goals (try (first
    | ((with_reducible refine of_kSpec ?_)
       refine call_sub (ds' := [.agg (encEv e), .sl 29 (es.map encEv)]) (spec51 e es) rfl ?_ ?_
       · simp -implicitDefEqProofs only [SD, SF, SL, e_nf, reduceCtorEq, implies_true, ↓reduceIte, Nat.reduceEqDiff, Nat.reduceAdd, Nat.reduceMul, Nat.reduceSub, Nat.reduceLeDiff, Nat.reduceLT, Int.reduceLT, Int.reduceLE, Int.reduceEq, Int.reduceToNat, Int.reduceAdd, Int.reduceSub, Int.reduceNeg, Int.reduceBEq, Int.reduceBNe, Nat.reduceBEq, Int.cast_ofNat_Int, decide_true, decide_false, ne_eq, eq_self_iff_true, beq_eq_false_iff_ne, bne_iff_ne, List.replicate, encEv, *]
         done)
    | ((with_reducible refine of_kSpec ?_); refine call_fz (spec36 es _) rfl ?_)
    | ((with_reducible refine of_kSpec ?_); refine call_fz (spec52 _ _ _) rfl ?_)
    | ((with_reducible refine of_kSpec ?_)
       refine call_sub (ds' := [.agg (encEv e), .sl 29 (es.map encEv), .int .i64 (memberL es e.key)]) (spec53 e es (memberL es e.key) ha) rfl ?_ ?_
       · simp -implicitDefEqProofs only [SD, SF, SL, e_nf, reduceCtorEq, implies_true, ↓reduceIte, Nat.reduceEqDiff, Nat.reduceAdd, Nat.reduceMul, Nat.reduceSub, Nat.reduceLeDiff, Nat.reduceLT, Int.reduceLT, Int.reduceLE, Int.reduceEq, Int.reduceToNat, Int.reduceAdd, Int.reduceSub, Int.reduceNeg, Int.reduceBEq, Int.reduceBNe, Nat.reduceBEq, Int.cast_ofNat_Int, decide_true, decide_false, ne_eq, eq_self_iff_true, beq_eq_false_iff_ne, bne_iff_ne, List.replicate, encEv, *]
         done)
    | ((with_reducible refine of_kSpec ?_)
       refine call_sub (ds' := [.agg (encEv e), .sl 29 (es.map encEv), .int .i64 (memberL es e.key)]) (spec54 e es (memberL es e.key)) rfl ?_ ?_
       · simp -implicitDefEqProofs only [SD, SF, SL, e_nf, reduceCtorEq, implies_true, ↓reduceIte, Nat.reduceEqDiff, Nat.reduceAdd, Nat.reduceMul, Nat.reduceSub, Nat.reduceLeDiff, Nat.reduceLT, Int.reduceLT, Int.reduceLE, Int.reduceEq, Int.reduceToNat, Int.reduceAdd, Int.reduceSub, Int.reduceNeg, Int.reduceBEq, Int.reduceBNe, Nat.reduceBEq, Int.cast_ofNat_Int, decide_true, decide_false, ne_eq, eq_self_iff_true, beq_eq_false_iff_ne, bne_iff_ne, List.replicate, encEv, *]
         done)
    | (with_reducible refine ite_in (fun _ => ?_) (fun _ => ?_))
    | (with_reducible refine ⟨fun _ => ?_, fun _ => ?_⟩)
    | (with_reducible refine And.intro ?_ ?_)
    | (with_reducible intro _)
    | (with_reducible exact is_in _)
    | ((with_reducible refine eq_in ?_); ((first | (simp_all [memR, memR']; done) | grind [memR, memR'])); done)
    | (simp -implicitDefEqProofs only [SD, SF, SL, e_nf, reduceCtorEq, implies_true, ↓reduceIte, Nat.reduceEqDiff, Nat.reduceAdd, Nat.reduceMul, Nat.reduceSub, Nat.reduceLeDiff, Nat.reduceLT, Int.reduceLT, Int.reduceLE, Int.reduceEq, Int.reduceToNat, Int.reduceAdd, Int.reduceSub, Int.reduceNeg, Int.reduceBEq, Int.reduceBNe, Nat.reduceBEq, Int.cast_ofNat_Int, decide_true, decide_false, ne_eq, eq_self_iff_true, beq_eq_false_iff_ne, bne_iff_ne, List.replicate, encEv, *]))))
def ac19 : AC := (.seq (.ops [⟨(some 2), none, (.box (.t 0))⟩, ⟨(some 4), none, (.mv (.c (.int .i64 0)))⟩]) (.seq (.ops [⟨(some 8), none, (.mv (.t 1))⟩, ⟨(some 9), none, (.call false 33 [(.t 8)])⟩, ⟨(some 7), none, (.mv (.t 9))⟩, ⟨(some 10), none, (.ext (.t 7) 0)⟩, ⟨(some 11), none, (.ext (.t 7) 1)⟩, ⟨(some 5), none, (.alloc [(.int .i64 0), (.str []), (.str []), (.int .i64 0), (.bool false), (.str []), (.int .i64 0), (.int .i64 0), .e0, .e0, (.str []), (.int .i64 0), (.int .i64 0), (.bool false), (.str []), .e0, .e0, .e0, .e0, (.int .i64 0), (.int .i64 0), (.int .i64 0), (.int .i64 0), (.int .i64 0), (.int .i64 0), (.int .i64 0), (.int .i64 0), (.str []), (.int .i64 0)])⟩, ⟨none, none, (.sto 29 (.t 5) (.t 10))⟩, ⟨(some 6), none, (.mv (.t 11))⟩]) (.seq (.seq (.ops [⟨(some 12), none, (.fld 3 (.t 2))⟩, ⟨(some 13), none, (.ld false 1 (.t 12))⟩, ⟨(some 14), none, (.bin .eql (.t 13) (.c (.int .i64 1)))⟩]) (.cond (.t 14) (.seq (.seq (.draw (.q false ⟨(some 15), none, (.mv (.t 6))⟩ (.q false ⟨(some 16), none, (.nt (.t 15))⟩ (.q false ⟨(some 17), none, (.mv (.t 16))⟩ (.q false ⟨(some 18), (some (17, true)), (.fld 2 (.t 2))⟩ (.q false ⟨(some 19), (some (17, true)), (.ld false 1 (.t 18))⟩ (.q false ⟨(some 21), (some (17, true)), (.fld 1 (.t 2))⟩ (.q false ⟨(some 22), (some (17, true)), (.ld false 1 (.t 21))⟩ (.op ⟨(some 20), (some (17, true)), (.call false 34 [(.t 19)])⟩ (.op ⟨(some 23), (some (17, true)), (.call false 34 [(.t 22)])⟩ (.q false ⟨(some 24), (some (17, true)), (.bin .eql (.t 20) (.t 23))⟩ (.q false ⟨(some 25), none, (.pick (.t 17) (.t 24) (.c (.bool false)))⟩ .nil)))))))))))) (.cond (.t 25) (.seq (.ops [⟨(some 4), none, (.mv (.c (.int .i64 0)))⟩]) .ret) .skip)) (.seq (.ops [⟨(some 4), none, (.mv (.c (.int .i64 17)))⟩]) .ret)) .skip)) (.seq (.seq (.ops [⟨(some 26), none, (.mv (.t 6))⟩, ⟨(some 27), none, (.nt (.t 26))⟩]) (.cond (.t 27) (.seq (.ops [⟨(some 4), none, (.mv (.c (.int .i64 17)))⟩]) .ret) .skip)) (.seq (.seq (.ops [⟨(some 28), none, (.fld 3 (.t 2))⟩, ⟨(some 29), none, (.ld false 1 (.t 28))⟩, ⟨(some 30), none, (.bin .eql (.t 29) (.c (.int .i64 2)))⟩]) (.cond (.t 30) (.seq (.ops [⟨(some 31), none, (.ld true 29 (.t 2))⟩, ⟨(some 32), none, (.mv (.t 1))⟩, ⟨(some 33), none, (.call false 35 [(.t 31), (.t 32)])⟩, ⟨(some 4), none, (.mv (.t 33))⟩]) .ret) .skip)) (.seq (.seq (.ops [⟨(some 34), none, (.mv (.t 1))⟩, ⟨(some 35), none, (.fld 2 (.t 2))⟩, ⟨(some 36), none, (.ld false 1 (.t 35))⟩, ⟨(some 37), none, (.call false 36 [(.t 34), (.t 36)])⟩, ⟨(some 38), none, (.bin .neq (.t 37) (.c (.int .i64 3)))⟩]) (.cond (.t 38) (.seq (.ops [⟨(some 4), none, (.mv (.c (.int .i64 18)))⟩]) .ret) .skip)) (.seq (.ops [⟨(some 39), none, (.ld true 29 (.t 2))⟩, ⟨(some 40), none, (.mv (.t 1))⟩, ⟨(some 41), none, (.call false 37 [(.t 39), (.t 40)])⟩, ⟨(some 4), none, (.mv (.t 41))⟩]) .ret)))))))
theorem tr19 : Tryz.f19.body.bind (trCode Tryz.prog) = some (strip ac19) := by kernel_rfl
theorem spec19 (e : Ev) (es : List Ev) (ha : ∀ e ∈ es, e.allow.length ≤ 1000) (hb : ∀ e ∈ es, e.lv.users.length ≤ 1000 ∧ e.lv.kinds.length ≤ 1000) (hk : e.lv.kinds.length ≤ 1000) (hL : (levelsL es).kinds.length ≤ 1000) (hs : e.sender.length ≤ 100000 ∧ e.room.length ≤ 100000) : Spec Tryz.prog 19 [.fz (.agg (encEv e)), .fz (.sl 29 (es.map encEv))] (.fz (.int .i64 (allR e es))) := by
  refine spec_at (n := 40) (ars := [(.t 4)]) (ac := ac19) Tryz.func19 (by kernel_rfl) (by kernel_rfl) tr19 (by kernel_rfl) ?_
  unfold ac19
  iterate 40 (all_goals (try (first
    | ((with_reducible refine of_kSpec ?_); refine call_fz (spec33 es) rfl ?_)
    | ((with_reducible refine of_kSpec ?_); refine call_fz (spec34 e.sender hs.1) rfl ?_)
    | ((with_reducible refine of_kSpec ?_); refine call_fz (spec34 e.room hs.2) rfl ?_)
    | ((with_reducible refine of_kSpec ?_)
       refine call_sub (ds' := [.agg (encEv e), .sl 29 (es.map encEv)]) (spec35 e es ha) rfl ?_ ?_
       · simp -implicitDefEqProofs only [SD, SF, SL, e_nf, reduceCtorEq, implies_true, ↓reduceIte, Nat.reduceEqDiff, Nat.reduceAdd, Nat.reduceMul, Nat.reduceSub, Nat.reduceLeDiff, Nat.reduceLT, Int.reduceLT, Int.reduceLE, Int.reduceEq, Int.reduceToNat, Int.reduceAdd, Int.reduceSub, Int.reduceNeg, Int.reduceBEq, Int.reduceBNe, Nat.reduceBEq, Int.cast_ofNat_Int, decide_true, decide_false, ne_eq, eq_self_iff_true, beq_eq_false_iff_ne, bne_iff_ne, List.replicate, encEv, *]
         done)
    | ((with_reducible refine of_kSpec ?_); refine call_fz (spec36 es _) rfl ?_)
    | ((with_reducible refine of_kSpec ?_)
       refine call_sub (ds' := [.agg (encEv e), .sl 29 (es.map encEv)]) (spec37 e es hb hk hL) rfl ?_ ?_
       · simp -implicitDefEqProofs only [SD, SF, SL, e_nf, reduceCtorEq, implies_true, ↓reduceIte, Nat.reduceEqDiff, Nat.reduceAdd, Nat.reduceMul, Nat.reduceSub, Nat.reduceLeDiff, Nat.reduceLT, Int.reduceLT, Int.reduceLE, Int.reduceEq, Int.reduceToNat, Int.reduceAdd, Int.reduceSub, Int.reduceNeg, Int.reduceBEq, Int.reduceBNe, Nat.reduceBEq, Int.cast_ofNat_Int, decide_true, decide_false, ne_eq, eq_self_iff_true, beq_eq_false_iff_ne, bne_iff_ne, List.replicate, encEv, *]
         done)
    | (with_reducible refine ite_in (fun _ => ?_) (fun _ => ?_))
    | (with_reducible refine ⟨fun _ => ?_, fun _ => ?_⟩)
    | (with_reducible refine And.intro ?_ ?_)
    | (with_reducible intro _)
    | (with_reducible exact is_in _)
    | ((with_reducible refine eq_in ?_); ((first | (simp_all [allR]; done) | grind [allR])); done)
    | (simp -implicitDefEqProofs only [SD, SF, SL, e_nf, reduceCtorEq, implies_true, ↓reduceIte, Nat.reduceEqDiff, Nat.reduceAdd, Nat.reduceMul, Nat.reduceSub, Nat.reduceLeDiff, Nat.reduceLT, Int.reduceLT, Int.reduceLE, Int.reduceEq, Int.reduceToNat, Int.reduceAdd, Int.reduceSub, Int.reduceNeg, Int.reduceBEq, Int.reduceBNe, Nat.reduceBEq, Int.cast_ofNat_Int, decide_true, decide_false, ne_eq, eq_self_iff_true, beq_eq_false_iff_ne, bne_iff_ne, List.replicate, encEv, *]))))

end Go.Proofs.YtcolebkklojccaaGreat.E

namespace Go.Proofs.YtcolebkklojccaaGreat.E
open Go
set_option maxHeartbeats 4000000
set_option maxRecDepth 100000
set_option linter.unusedSimpArgs false
set_option linter.unusedVariables false
attribute [local congr] c_wp c_ops c_op c_opS c_run c_runS c_dt c_seq c_blk c_loop c_S c_put c_bind c_mv c_pick c_nt c_ng c_bin c_binI c_binS c_beq c_B c_eqa c_hd c_cells c_blkK c_box c_vec c_mp c_nck c_mks c_appn c_mkm c_mput c_mlk c_mrm c_take c_ld c_ldF c_cellsK c_st c_fld c_fldv c_ix c_ixp c_ixv c_ixs c_sub c_subs c_len c_lens c_src c_dst c_ow c_app c_ext c_mm c_conv c_str c_isn c_fill c_rows c_boxo c_frz c_frzO c_frzA c_frzV c_spec c_specO c_opsP c_opP c_runP c_specP c_Z c_qretP c_fz c_fn c_gv c_cond c_res1 c_resL c_ret c_qret c_ite c_unr c_nx c_bk c_cut c_is
attribute [local irreducible] dwp
def ac87 : AC := (.seq (.draw (.q false ⟨(some 9), none, (.fld 5 (.t 0))⟩ (.q false ⟨(some 10), none, (.ld false 1 (.t 9))⟩ (.q false ⟨(some 11), none, (.fld 10 (.t 0))⟩ (.q false ⟨(some 12), none, (.fld 1 (.t 11))⟩ (.q false ⟨(some 13), none, (.ld false 1 (.t 12))⟩ (.q false ⟨(some 14), none, (.ld false 1 (.t 1))⟩ (.q false ⟨(some 15), none, (.fld 5 (.t 0))⟩ (.q false ⟨(some 16), none, (.ld false 1 (.t 15))⟩ (.op ⟨(some 17), none, (.call false 72 [(.t 14), (.t 16)])⟩ (.q false ⟨(some 2), none, (.mv (.t 10))⟩ (.q false ⟨(some 3), none, (.mv (.t 13))⟩ (.q false ⟨(some 4), none, (.mv (.t 17))⟩ .nil))))))))))))) (.seq (.ops [⟨(some 18), none, (.mv (.t 2))⟩, ⟨(some 19), none, (.fld 2 (.t 0))⟩, ⟨(some 20), none, (.ld false 1 (.t 19))⟩, ⟨(some 21), none, (.bin .eql (.t 18) (.t 20))⟩, ⟨(some 5), none, (.mv (.t 21))⟩]) (.seq (.opsp [⟨(some 22), none, (.mv (.t 5))⟩, ⟨(some 23), none, (.nt (.t 22))⟩, ⟨(some 24), none, (.mv (.t 23))⟩, ⟨(some 25), (some (24, false)), (.mv (.t 4))⟩, ⟨(some 26), (some (24, false)), (.bin .neq (.t 25) (.c (.int .i64 4)))⟩, ⟨(some 27), none, (.pick (.t 24) (.c (.bool true)) (.t 26))⟩, ⟨(some 28), none, (.call false 68 [(.t 27), (.c (.int .i64 19))])⟩]) (.seq (.opsp [⟨(some 29), none, (.mv (.t 4))⟩, ⟨(some 30), none, (.mv (.t 3))⟩, ⟨(some 31), none, (.mv (.t 5))⟩, ⟨(some 32), none, (.call false 88 [(.t 29), (.t 30), (.t 31)])⟩, ⟨(some 33), none, (.call false 68 [(.t 32), (.c (.int .i64 18))])⟩]) (.seq (.seq (.ops [⟨(some 34), none, (.mv (.t 5))⟩]) (.cond (.t 34) (.opsp [⟨(some 35), none, (.mv (.t 3))⟩, ⟨(some 36), none, (.mv (.t 4))⟩, ⟨(some 37), none, (.ld false 1 (.t 1))⟩, ⟨(some 38), none, (.call false 89 [(.t 35), (.t 36), (.t 37)])⟩, ⟨(some 39), none, (.call false 70 [(.t 38)])⟩]) .skip)) (.seq (.opsp [⟨(some 40), none, (.ld false 1 (.t 1))⟩, ⟨(some 41), none, (.fld 2 (.t 0))⟩, ⟨(some 42), none, (.ld false 1 (.t 41))⟩, ⟨(some 43), none, (.call false 72 [(.t 40), (.t 42)])⟩, ⟨(some 44), none, (.bin .eql (.t 43) (.c (.int .i64 3)))⟩, ⟨(some 45), none, (.call false 68 [(.t 44), (.c (.int .i64 18))])⟩]) (.seq (.ops [⟨(some 47), none, (.ld false 1 (.t 1))⟩, ⟨(some 48), none, (.call false 90 [(.t 47)])⟩, ⟨(some 46), none, (.mv (.t 48))⟩, ⟨(some 49), none, (.ext (.t 46) 0)⟩, ⟨(some 50), none, (.ext (.t 46) 1)⟩, ⟨(some 6), none, (.alloc [.e0, .e0, (.int .i64 0), (.int .i64 0), (.int .i64 0), (.int .i64 0), (.int .i64 0), (.int .i64 0), (.int .i64 0)])⟩, ⟨none, none, (.sto 9 (.t 6) (.t 49))⟩, ⟨(some 7), none, (.mv (.t 50))⟩]) (.seq (.ops [⟨(some 51), none, (.ld true 9 (.t 6))⟩, ⟨(some 52), none, (.fld 2 (.t 0))⟩, ⟨(some 53), none, (.ld false 1 (.t 52))⟩, ⟨(some 54), none, (.call false 91 [(.t 51), (.t 53)])⟩, ⟨(some 8), none, (.mv (.t 54))⟩]) (.seq .skip (.seq (.ops [⟨(some 55), none, (.mv (.t 3))⟩]) (.block 0 (.seq (.ops [⟨(some 57), none, (.bin .eql (.t 55) (.c (.int .i64 1)))⟩, ⟨(some 56), none, (.mv (.t 57))⟩]) (.cond (.t 56) (.seq (.opsp [⟨(some 58), none, (.mv (.t 8))⟩, ⟨(some 59), none, (.fld 5 (.t 6))⟩, ⟨(some 60), none, (.ld false 1 (.t 59))⟩, ⟨(some 61), none, (.bin .geq (.t 58) (.t 60))⟩, ⟨(some 62), none, (.call false 68 [(.t 61), (.c (.int .i64 20))])⟩]) (.exit 0)) (.seq (.ops [⟨(some 64), none, (.bin .eql (.t 55) (.c (.int .i64 0)))⟩, ⟨(some 63), none, (.mv (.t 64))⟩]) (.cond (.t 63) (.seq (.opsp [⟨(some 65), none, (.mv (.t 4))⟩, ⟨(some 66), none, (.bin .neq (.t 65) (.c (.int .i64 4)))⟩, ⟨(some 67), none, (.mv (.t 66))⟩, ⟨(some 68), (some (67, false)), (.mv (.t 8))⟩, ⟨(some 69), (some (67, false)), (.fld 7 (.t 6))⟩, ⟨(some 70), (some (67, false)), (.ld false 1 (.t 69))⟩, ⟨(some 71), (some (67, false)), (.bin .geq (.t 68) (.t 70))⟩, ⟨(some 72), none, (.pick (.t 67) (.c (.bool true)) (.t 71))⟩, ⟨(some 73), none, (.call false 68 [(.t 72), (.c (.int .i64 20))])⟩]) (.opsp [⟨(some 74), none, (.mv (.t 8))⟩, ⟨(some 75), none, (.fld 6 (.t 6))⟩, ⟨(some 76), none, (.ld false 1 (.t 75))⟩, ⟨(some 77), none, (.bin .geq (.t 74) (.t 76))⟩, ⟨(some 78), none, (.mv (.t 77))⟩, ⟨(some 79), (some (78, true)), (.ld true 9 (.t 6))⟩, ⟨(some 80), (some (78, true)), (.mv (.t 2))⟩, ⟨(some 81), (some (78, true)), (.call false 91 [(.t 79), (.t 80)])⟩, ⟨(some 82), (some (78, true)), (.mv (.t 8))⟩, ⟨(some 83), (some (78, true)), (.bin .lss (.t 81) (.t 82))⟩, ⟨(some 84), none, (.pick (.t 78) (.t 83) (.c (.bool false)))⟩, ⟨(some 85), none, (.call false 68 [(.t 84), (.c (.int .i64 20))])⟩])) (.seq (.ops [⟨(some 87), none, (.bin .eql (.t 55) (.c (.int .i64 4)))⟩, ⟨(some 86), none, (.mv (.t 87))⟩]) (.cond (.t 86) (.opsp [⟨(some 88), none, (.mv (.t 8))⟩, ⟨(some 89), none, (.fld 7 (.t 6))⟩, ⟨(some 90), none, (.ld false 1 (.t 89))⟩, ⟨(some 91), none, (.bin .geq (.t 88) (.t 90))⟩, ⟨(some 92), none, (.mv (.t 91))⟩, ⟨(some 93), (some (92, true)), (.ld true 9 (.t 6))⟩, ⟨(some 94), (some (92, true)), (.mv (.t 2))⟩, ⟨(some 95), (some (92, true)), (.call false 91 [(.t 93), (.t 94)])⟩, ⟨(some 96), (some (92, true)), (.mv (.t 8))⟩, ⟨(some 97), (some (92, true)), (.bin .lss (.t 95) (.t 96))⟩, ⟨(some 98), none, (.pick (.t 92) (.t 97) (.c (.bool false)))⟩, ⟨(some 99), none, (.call false 68 [(.t 98), (.c (.int .i64 20))])⟩]) .skip)))))))))))))))))
theorem tr87 : Tryz.f87.body.bind (trCode Tryz.prog) = some (strip ac87) := by kernel_rfl
theorem specP87 (e : Ev) (es : List Ev) (ha : ∀ e ∈ es, e.allow.length ≤ 1000) (hb : ∀ e ∈ es, e.lv.users.length ≤ 1000 ∧ e.lv.kinds.length ≤ 1000) (hp : e.key = e.sender ∨ memR' e es ≠ 0) : SpecP Tryz.prog 87 [(.pf (encEv e)), (.pf [.sl 29 (es.map encEv)])] (verdD (memR' e es)) := by
  refine specP_at (n := 98) (ac := ac87) Tryz.func87 (by kernel_rfl) (by kernel_rfl) tr87 ?_
  unfold ac87
  iterate 60 (all_goals (try (first
    | (with_reducible refine need_call ?_)
    | (with_reducible refine callP_pan (specP70 _) rfl ?_)
    | (with_reducible refine callP_ret ?_)
    | ((with_reducible refine of_kSpec ?_); refine call_fz (spec72 es _) rfl ?_)
    | ((with_reducible refine of_kSpec ?_); refine call_fz (spec88 _ _ _) rfl ?_)
    | ((with_reducible refine of_kSpec ?_); refine call_fz (spec89 _ _ es ha) rfl ?_)
    | ((with_reducible refine of_kSpec ?_); refine call_fz (spec90 es hb) rfl ?_)
    | ((with_reducible refine of_kSpec ?_); refine call_fz (spec91 (levelsL es) _) rfl ?_)
    | ((with_reducible refine of_kSpec ?_); refine call_fz (spec68 _) rfl ?_)
    | (with_reducible refine ite_in (fun _ => ?_) (fun _ => ?_))
    | (with_reducible refine ⟨fun _ => ?_, fun _ => ?_⟩)
    | (with_reducible refine And.intro ?_ ?_)
    | (with_reducible intro _)
    | (with_reducible exact is_in _)
    | ((with_reducible refine eq_in ?_); ((first | (simp_all [memR', othR, userV]; done) | grind [memR', othR, userV])); done)
    | (simp -implicitDefEqProofs only [SD, SF, SL, e_nf, reduceCtorEq, implies_true, ↓reduceIte, Nat.reduceEqDiff, Nat.reduceAdd, Nat.reduceMul, Nat.reduceSub, Nat.reduceLeDiff, Nat.reduceLT, Int.reduceLT, Int.reduceLE, Int.reduceEq, Int.reduceToNat, Int.reduceAdd, Int.reduceSub, Int.reduceNeg, Int.reduceBEq, Int.reduceBNe, Nat.reduceBEq, Int.cast_ofNat_Int, decide_true, decide_false, ne_eq, eq_self_iff_true, beq_eq_false_iff_ne, bne_iff_ne, List.replicate, encEv, encLv, verd_sub, *]))))
  all_goals ((first | (simp_all [memR', othR, userV]; done) | grind [memR', othR, userV]))
theorem spec87 (e : Ev) (es : List Ev) (ha : ∀ e ∈ es, e.allow.length ≤ 1000) (hb : ∀ e ∈ es, e.lv.users.length ≤ 1000 ∧ e.lv.kinds.length ≤ 1000) (hp : ¬ (e.key = e.sender ∨ memR' e es ≠ 0)) : Spec Tryz.prog 87 [.fz (.pf (encEv e)), .fz (.pf [.sl 29 (es.map encEv)])] (.fz (.tup [])) := by
  refine spec_at (n := 98) (ars := []) (ac := ac87) Tryz.func87 (by kernel_rfl) (by kernel_rfl) tr87 (by kernel_rfl) ?_
  unfold ac87
  iterate 60 (all_goals (try (first
    | (with_reducible refine need_call ?_)
    | (with_reducible refine callP_pan (specP70 _) rfl ?_)
    | (with_reducible refine callP_ret ?_)
    | ((with_reducible refine of_kSpec ?_); refine call_fz (spec72 es _) rfl ?_)
    | ((with_reducible refine of_kSpec ?_); refine call_fz (spec88 _ _ _) rfl ?_)
    | ((with_reducible refine of_kSpec ?_); refine call_fz (spec89 _ _ es ha) rfl ?_)
    | ((with_reducible refine of_kSpec ?_); refine call_fz (spec90 es hb) rfl ?_)
    | ((with_reducible refine of_kSpec ?_); refine call_fz (spec91 (levelsL es) _) rfl ?_)
    | ((with_reducible refine of_kSpec ?_); refine call_fz (spec68 _) rfl ?_)
    | (with_reducible refine ite_in (fun _ => ?_) (fun _ => ?_))
    | (with_reducible refine ⟨fun _ => ?_, fun _ => ?_⟩)
    | (with_reducible refine And.intro ?_ ?_)
    | (with_reducible intro _)
    | (with_reducible exact is_in _)
    | ((with_reducible refine eq_in ?_); ((first | (simp_all [memR', othR, userV]; done) | grind [memR', othR, userV])); done)
    | (simp -implicitDefEqProofs only [SD, SF, SL, e_nf, reduceCtorEq, implies_true, ↓reduceIte, Nat.reduceEqDiff, Nat.reduceAdd, Nat.reduceMul, Nat.reduceSub, Nat.reduceLeDiff, Nat.reduceLT, Int.reduceLT, Int.reduceLE, Int.reduceEq, Int.reduceToNat, Int.reduceAdd, Int.reduceSub, Int.reduceNeg, Int.reduceBEq, Int.reduceBNe, Nat.reduceBEq, Int.cast_ofNat_Int, decide_true, decide_false, ne_eq, eq_self_iff_true, beq_eq_false_iff_ne, bne_iff_ne, List.replicate, encEv, encLv, verd_sub, *]))))
  all_goals ((first | (simp_all [memR', othR, userV]; done) | grind [memR', othR, userV]))

end Go.Proofs.YtcolebkklojccaaGreat.E

namespace Go.Proofs.YtcolebkklojccaaGreat.E
open Go
set_option maxHeartbeats 4000000
set_option maxRecDepth 100000
set_option linter.unusedSimpArgs false
set_option linter.unusedVariables false
attribute [local congr] c_wp c_ops c_op c_opS c_run c_runS c_dt c_seq c_blk c_loop c_S c_put c_bind c_mv c_pick c_nt c_ng c_bin c_binI c_binS c_beq c_B c_eqa c_hd c_cells c_blkK c_box c_vec c_mp c_nck c_mks c_appn c_mkm c_mput c_mlk c_mrm c_take c_ld c_ldF c_cellsK c_st c_fld c_fldv c_ix c_ixp c_ixv c_ixs c_sub c_subs c_len c_lens c_src c_dst c_ow c_app c_ext c_mm c_conv c_str c_isn c_fill c_rows c_boxo c_frz c_frzO c_frzA c_frzV c_spec c_specO c_opsP c_opP c_runP c_specP c_Z c_qretP c_fz c_fn c_gv c_cond c_res1 c_resL c_ret c_qret c_ite c_unr c_nx c_bk c_cut c_is
attribute [local irreducible] dwp
def ac71 : AC := (.seq (.ops [⟨(some 2), none, (.box (.t 0))⟩, ⟨(some 3), none, (.box (.t 1))⟩, ⟨(some 4), none, (.mv (.c (.int .i64 0)))⟩]) (.seq (.seq (.ops [⟨(some 5), none, (.ld true 29 (.t 2))⟩, ⟨(some 6), none, (.ld false 1 (.t 3))⟩, ⟨(some 7), none, (.call false 86 [(.t 5), (.t 6)])⟩]) (.cond (.t 7) (.seq (.ops [⟨(some 4), none, (.mv (.c (.int .i64 0)))⟩]) .ret) .skip)) (.seq (.ops [⟨(some 8), none, (.mkfn 87 [(.t 2), (.t 3)])⟩, ⟨(some 9), none, (.call false 65 [(.t 8)])⟩, ⟨(some 4), none, (.mv (.t 9))⟩]) .ret)))
theorem tr71 : Tryz.f71.body.bind (trCode Tryz.prog) = some (strip ac71) := by kernel_rfl
theorem spec71 (e : Ev) (es : List Ev) (ha : ∀ e ∈ es, e.allow.length ≤ 1000) (hb : ∀ e ∈ es, e.lv.users.length ≤ 1000 ∧ e.lv.kinds.length ≤ 1000) : Spec Tryz.prog 71 [.fz (.agg (encEv e)), .fz (.sl 29 (es.map encEv))] (.fz (.int .i64 (memR e es))) := by
  refine spec_at (n := 8) (ars := [(.t 4)]) (ac := ac71) Tryz.func71 (by kernel_rfl) (by kernel_rfl) tr71 (by kernel_rfl) ?_
  unfold ac71
  cases hf : firstB e es
  · have hm : memR e es = memR' e es := by simp [memR, hf]
    by_cases hp : e.key = e.sender ∨ memR' e es ≠ 0
    · have hd := spec65_pan (specP87 e es ha hb hp)
      iterate 30 (all_goals (try (first
        | ((with_reducible refine of_kSpec ?_)
           refine call_sub (ds' := [.agg (encEv e), .sl 29 (es.map encEv)]) (spec86 e es) rfl ?_ ?_
           · simp -implicitDefEqProofs only [SD, SF, SL, e_nf, reduceCtorEq, implies_true, ↓reduceIte, Nat.reduceEqDiff, Nat.reduceAdd, Nat.reduceMul, Nat.reduceSub, Nat.reduceLeDiff, Nat.reduceLT, Int.reduceLT, Int.reduceLE, Int.reduceEq, Int.reduceToNat, Int.reduceAdd, Int.reduceSub, Int.reduceNeg, Int.reduceBEq, Int.reduceBNe, Nat.reduceBEq, Int.cast_ofNat_Int, decide_true, decide_false, ne_eq, eq_self_iff_true, beq_eq_false_iff_ne, bne_iff_ne, List.replicate, encEv, *]
             done)
        | ((with_reducible refine of_kSpec ?_); refine call_fz (hd) rfl ?_)
        | (with_reducible refine ite_in (fun _ => ?_) (fun _ => ?_))
        | (with_reducible refine ⟨fun _ => ?_, fun _ => ?_⟩)
        | (with_reducible refine And.intro ?_ ?_)
        | (with_reducible intro _)
        | (with_reducible exact is_in _)
        | (simp -implicitDefEqProofs only [SD, SF, SL, e_nf, reduceCtorEq, implies_true, ↓reduceIte, Nat.reduceEqDiff, Nat.reduceAdd, Nat.reduceMul, Nat.reduceSub, Nat.reduceLeDiff, Nat.reduceLT, Int.reduceLT, Int.reduceLE, Int.reduceEq, Int.reduceToNat, Int.reduceAdd, Int.reduceSub, Int.reduceNeg, Int.reduceBEq, Int.reduceBNe, Nat.reduceBEq, Int.cast_ofNat_Int, decide_true, decide_false, ne_eq, eq_self_iff_true, beq_eq_false_iff_ne, bne_iff_ne, List.replicate, encEv, *]))))
    · have hd := spec65_ret (g := 87) (cap := [.pf (encEv e), .pf [.sl 29 (es.map encEv)]]) (spec87 e es ha hb hp)
      have hz : memR' e es = 0 := by simp at hp; exact hp.2
      clear hp
      iterate 30 (all_goals (try (first
        | ((with_reducible refine of_kSpec ?_)
           refine call_sub (ds' := [.agg (encEv e), .sl 29 (es.map encEv)]) (spec86 e es) rfl ?_ ?_
           · simp -implicitDefEqProofs only [SD, SF, SL, e_nf, reduceCtorEq, implies_true, ↓reduceIte, Nat.reduceEqDiff, Nat.reduceAdd, Nat.reduceMul, Nat.reduceSub, Nat.reduceLeDiff, Nat.reduceLT, Int.reduceLT, Int.reduceLE, Int.reduceEq, Int.reduceToNat, Int.reduceAdd, Int.reduceSub, Int.reduceNeg, Int.reduceBEq, Int.reduceBNe, Nat.reduceBEq, Int.cast_ofNat_Int, decide_true, decide_false, ne_eq, eq_self_iff_true, beq_eq_false_iff_ne, bne_iff_ne, List.replicate, encEv, *]
             done)
        | ((with_reducible refine of_kSpec ?_); refine call_fz (hd) rfl ?_)
        | (with_reducible refine ite_in (fun _ => ?_) (fun _ => ?_))
        | (with_reducible refine ⟨fun _ => ?_, fun _ => ?_⟩)
        | (with_reducible refine And.intro ?_ ?_)
        | (with_reducible intro _)
        | (with_reducible exact is_in _)
        | (simp -implicitDefEqProofs only [SD, SF, SL, e_nf, reduceCtorEq, implies_true, ↓reduceIte, Nat.reduceEqDiff, Nat.reduceAdd, Nat.reduceMul, Nat.reduceSub, Nat.reduceLeDiff, Nat.reduceLT, Int.reduceLT, Int.reduceLE, Int.reduceEq, Int.reduceToNat, Int.reduceAdd, Int.reduceSub, Int.reduceNeg, Int.reduceBEq, Int.reduceBNe, Nat.reduceBEq, Int.cast_ofNat_Int, decide_true, decide_false, ne_eq, eq_self_iff_true, beq_eq_false_iff_ne, bne_iff_ne, List.replicate, encEv, *]))))
  · have hm : memR e es = 0 := by simp [memR, hf]
    iterate 30 (all_goals (try (first
      | ((with_reducible refine of_kSpec ?_)
         refine call_sub (ds' := [.agg (encEv e), .sl 29 (es.map encEv)]) (spec86 e es) rfl ?_ ?_
         · simp -implicitDefEqProofs only [SD, SF, SL, e_nf, reduceCtorEq, implies_true, ↓reduceIte, Nat.reduceEqDiff, Nat.reduceAdd, Nat.reduceMul, Nat.reduceSub, Nat.reduceLeDiff, Nat.reduceLT, Int.reduceLT, Int.reduceLE, Int.reduceEq, Int.reduceToNat, Int.reduceAdd, Int.reduceSub, Int.reduceNeg, Int.reduceBEq, Int.reduceBNe, Nat.reduceBEq, Int.cast_ofNat_Int, decide_true, decide_false, ne_eq, eq_self_iff_true, beq_eq_false_iff_ne, bne_iff_ne, List.replicate, encEv, *]
           done)
      | (with_reducible refine ite_in (fun _ => ?_) (fun _ => ?_))
      | (with_reducible refine ⟨fun _ => ?_, fun _ => ?_⟩)
      | (with_reducible refine And.intro ?_ ?_)
      | (with_reducible intro _)
      | (with_reducible exact is_in _)
      | (simp -implicitDefEqProofs only [SD, SF, SL, e_nf, reduceCtorEq, implies_true, ↓reduceIte, Nat.reduceEqDiff, Nat.reduceAdd, Nat.reduceMul, Nat.reduceSub, Nat.reduceLeDiff, Nat.reduceLT, Int.reduceLT, Int.reduceLE, Int.reduceEq, Int.reduceToNat, Int.reduceAdd, Int.reduceSub, Int.reduceNeg, Int.reduceBEq, Int.reduceBNe, Nat.reduceBEq, Int.cast_ofNat_Int, decide_true, decide_false, ne_eq, eq_self_iff_true, beq_eq_false_iff_ne, bne_iff_ne, List.replicate, encEv, *]))))

def ac66 : AC := (.seq (.ops [⟨(some 5), none, (.ld false 1 (.t 0))⟩, ⟨(some 6), none, (.call false 67 [(.t 5)])⟩, ⟨(some 4), none, (.mv (.t 6))⟩, ⟨(some 7), none, (.ext (.t 4) 0)⟩, ⟨(some 8), none, (.ext (.t 4) 1)⟩, ⟨(some 2), none, (.alloc [(.int .i64 0), (.str []), (.str []), (.int .i64 0), (.bool false), (.str []), (.int .i64 0), (.int .i64 0), .e0, .e0, (.str []), (.int .i64 0), (.int .i64 0), (.bool false), (.str []), .e0, .e0, .e0, .e0, (.int .i64 0), (.int .i64 0), (.int .i64 0), (.int .i64 0), (.int .i64 0), (.int .i64 0), (.int .i64 0), (.int .i64 0), (.str []), (.int .i64 0)])⟩, ⟨none, none, (.sto 29 (.t 2) (.t 7))⟩, ⟨(some 3), none, (.mv (.t 8))⟩]) (.seq (.seq (.ops [⟨(some 9), none, (.fld 3 (.t 1))⟩, ⟨(some 10), none, (.ld false 1 (.t 9))⟩, ⟨(some 11), none, (.bin .eql (.t 10) (.c (.int .i64 1)))⟩]) (.cond (.t 11) (.seq (.drawp (.q false ⟨(some 12), none, (.mv (.t 3))⟩ (.q false ⟨(some 13), none, (.nt (.t 12))⟩ (.q false ⟨(some 14), none, (.mv (.t 13))⟩ (.q false ⟨(some 15), (some (14, true)), (.fld 2 (.t 1))⟩ (.q false ⟨(some 16), (some (14, true)), (.ld false 1 (.t 15))⟩ (.q false ⟨(some 18), (some (14, true)), (.fld 1 (.t 1))⟩ (.q false ⟨(some 19), (some (14, true)), (.ld false 1 (.t 18))⟩ (.op ⟨(some 17), (some (14, true)), (.call false 69 [(.t 16)])⟩ (.op ⟨(some 20), (some (14, true)), (.call false 69 [(.t 19)])⟩ (.q false ⟨(some 21), (some (14, true)), (.bin .eql (.t 17) (.t 20))⟩ (.q false ⟨(some 22), none, (.pick (.t 14) (.t 21) (.c (.bool false)))⟩ .nil))))))))))) ⟨(some 23), none, (.call false 68 [(.t 22), (.c (.int .i64 17))])⟩) (.opsp [⟨(some 24), none, (.call false 70 [(.c (.int .i64 0))])⟩])) .skip)) (.seq (.opsp [⟨(some 25), none, (.mv (.t 3))⟩, ⟨(some 26), none, (.call false 68 [(.t 25), (.c (.int .i64 17))])⟩]) (.seq (.seq (.ops [⟨(some 27), none, (.fld 3 (.t 1))⟩, ⟨(some 28), none, (.ld false 1 (.t 27))⟩, ⟨(some 29), none, (.bin .eql (.t 28) (.c (.int .i64 2)))⟩]) (.cond (.t 29) (.opsp [⟨(some 30), none, (.ld true 29 (.t 1))⟩, ⟨(some 31), none, (.ld false 1 (.t 0))⟩, ⟨(some 32), none, (.call false 71 [(.t 30), (.t 31)])⟩, ⟨(some 33), none, (.call false 70 [(.t 32)])⟩]) .skip)) (.seq (.opsp [⟨(some 34), none, (.ld false 1 (.t 0))⟩, ⟨(some 35), none, (.fld 2 (.t 1))⟩, ⟨(some 36), none, (.ld false 1 (.t 35))⟩, ⟨(some 37), none, (.call false 72 [(.t 34), (.t 36)])⟩, ⟨(some 38), none, (.bin .eql (.t 37) (.c (.int .i64 3)))⟩, ⟨(some 39), none, (.call false 68 [(.t 38), (.c (.int .i64 18))])⟩]) (.opsp [⟨(some 40), none, (.ld true 29 (.t 1))⟩, ⟨(some 41), none, (.ld false 1 (.t 0))⟩, ⟨(some 42), none, (.call false 73 [(.t 40), (.t 41)])⟩, ⟨(some 43), none, (.call false 70 [(.t 42)])⟩]))))))
theorem tr66 : Tryz.f66.body.bind (trCode Tryz.prog) = some (strip ac66) := by kernel_rfl
theorem specP66 (e : Ev) (es : List Ev) (ha : ∀ e ∈ es, e.allow.length ≤ 1000) (hb : ∀ e ∈ es, e.lv.users.length ≤ 1000 ∧ e.lv.kinds.length ≤ 1000) (hs : e.sender.length ≤ 100000 ∧ e.room.length ≤ 100000) : SpecP Tryz.prog 66 [(.pf [.sl 29 (es.map encEv)]), (.pf (encEv e))] (verdD (allR e es)) := by
  refine specP_at (n := 42) (ac := ac66) Tryz.func66 (by kernel_rfl) (by kernel_rfl) tr66 ?_
  unfold ac66
  iterate 60 (all_goals (try (first
    | (with_reducible refine need_call ?_)
    | (with_reducible refine callP_pan (specP70 _) rfl ?_)
    | (with_reducible refine callP_ret ?_)
    | ((with_reducible refine of_kSpec ?_); refine call_fz (spec67 es) rfl ?_)
    | ((with_reducible refine of_kSpec ?_); refine call_fz (spec69 e.sender hs.1) rfl ?_)
    | ((with_reducible refine of_kSpec ?_); refine call_fz (spec69 e.room hs.2) rfl ?_)
    | ((with_reducible refine of_kSpec ?_)
       refine call_sub (ds' := [.agg (encEv e), .sl 29 (es.map encEv)]) (spec71 e es ha hb) rfl ?_ ?_
       · simp -implicitDefEqProofs only [SD, SF, SL, e_nf, reduceCtorEq, implies_true, ↓reduceIte, Nat.reduceEqDiff, Nat.reduceAdd, Nat.reduceMul, Nat.reduceSub, Nat.reduceLeDiff, Nat.reduceLT, Int.reduceLT, Int.reduceLE, Int.reduceEq, Int.reduceToNat, Int.reduceAdd, Int.reduceSub, Int.reduceNeg, Int.reduceBEq, Int.reduceBNe, Nat.reduceBEq, Int.cast_ofNat_Int, decide_true, decide_false, ne_eq, eq_self_iff_true, beq_eq_false_iff_ne, bne_iff_ne, List.replicate, encEv, *]
         done)
    | ((with_reducible refine of_kSpec ?_); refine call_fz (spec72 es _) rfl ?_)
    | ((with_reducible refine of_kSpec ?_)
       refine call_sub (ds' := [.agg (encEv e), .sl 29 (es.map encEv)]) (spec73 e es hb) rfl ?_ ?_
       · simp -implicitDefEqProofs only [SD, SF, SL, e_nf, reduceCtorEq, implies_true, ↓reduceIte, Nat.reduceEqDiff, Nat.reduceAdd, Nat.reduceMul, Nat.reduceSub, Nat.reduceLeDiff, Nat.reduceLT, Int.reduceLT, Int.reduceLE, Int.reduceEq, Int.reduceToNat, Int.reduceAdd, Int.reduceSub, Int.reduceNeg, Int.reduceBEq, Int.reduceBNe, Nat.reduceBEq, Int.cast_ofNat_Int, decide_true, decide_false, ne_eq, eq_self_iff_true, beq_eq_false_iff_ne, bne_iff_ne, List.replicate, encEv, *]
         done)
    | ((with_reducible refine of_kSpec ?_); refine call_fz (spec68 _) rfl ?_)
    | (with_reducible refine ite_in (fun _ => ?_) (fun _ => ?_))
    | (with_reducible refine ⟨fun _ => ?_, fun _ => ?_⟩)
    | (with_reducible refine And.intro ?_ ?_)
    | (with_reducible intro _)
    | (with_reducible exact is_in _)
    | ((with_reducible refine eq_in ?_); ((first | (simp_all [allR]; done) | grind [allR])); done)
    | (simp -implicitDefEqProofs only [SD, SF, SL, e_nf, reduceCtorEq, implies_true, ↓reduceIte, Nat.reduceEqDiff, Nat.reduceAdd, Nat.reduceMul, Nat.reduceSub, Nat.reduceLeDiff, Nat.reduceLT, Int.reduceLT, Int.reduceLE, Int.reduceEq, Int.reduceToNat, Int.reduceAdd, Int.reduceSub, Int.reduceNeg, Int.reduceBEq, Int.reduceBNe, Nat.reduceBEq, Int.cast_ofNat_Int, decide_true, decide_false, ne_eq, eq_self_iff_true, beq_eq_false_iff_ne, bne_iff_ne, List.replicate, encEv, verd_sub, *]))))
  all_goals ((first | (simp_all [allR]; done) | grind [allR]))
def ac48 : AC := (.seq (.ops [⟨(some 2), none, (.box (.t 0))⟩, ⟨(some 3), none, (.box (.t 1))⟩, ⟨(some 4), none, (.mv (.c (.int .i64 0)))⟩]) (.seq (.ops [⟨(some 5), none, (.mkfn 66 [(.t 3), (.t 2)])⟩, ⟨(some 6), none, (.call false 65 [(.t 5)])⟩, ⟨(some 4), none, (.mv (.t 6))⟩]) .ret))
theorem tr48 : Tryz.f48.body.bind (trCode Tryz.prog) = some (strip ac48) := by kernel_rfl
theorem spec48 (e : Ev) (es : List Ev) (ha : ∀ e ∈ es, e.allow.length ≤ 1000) (hb : ∀ e ∈ es, e.lv.users.length ≤ 1000 ∧ e.lv.kinds.length ≤ 1000) (hs : e.sender.length ≤ 100000 ∧ e.room.length ≤ 100000) : Spec Tryz.prog 48 [.fz (.agg (encEv e)), .fz (.sl 29 (es.map encEv))] (.fz (.int .i64 (allR e es))) := by
  refine spec_at (n := 5) (ars := [(.t 4)]) (ac := ac48) Tryz.func48 (by kernel_rfl) (by kernel_rfl) tr48 (by kernel_rfl) ?_
  unfold ac48
  have hd := spec65_pan (specP66 e es ha hb hs)
  iterate 30 (all_goals (try (first
    | ((with_reducible refine of_kSpec ?_); refine call_fz (hd) rfl ?_)
    | (with_reducible refine ite_in (fun _ => ?_) (fun _ => ?_))
    | (with_reducible refine ⟨fun _ => ?_, fun _ => ?_⟩)
    | (with_reducible refine And.intro ?_ ?_)
    | (with_reducible intro _)
    | (with_reducible exact is_in _)
    | (simp -implicitDefEqProofs only [SD, SF, SL, e_nf, reduceCtorEq, implies_true, ↓reduceIte, Nat.reduceEqDiff, Nat.reduceAdd, Nat.reduceMul, Nat.reduceSub, Nat.reduceLeDiff, Nat.reduceLT, Int.reduceLT, Int.reduceLE, Int.reduceEq, Int.reduceToNat, Int.reduceAdd, Int.reduceSub, Int.reduceNeg, Int.reduceBEq, Int.reduceBNe, Nat.reduceBEq, Int.cast_ofNat_Int, decide_true, decide_false, ne_eq, eq_self_iff_true, beq_eq_false_iff_ne, bne_iff_ne, List.replicate, encEv, *]))))


end Go.Proofs.YtcolebkklojccaaGreat.E
