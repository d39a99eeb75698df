/-
  AuL: walks of functions of the program at data level.
-/
import Derived.Test.YtcpiaamaddfbcaaProg
import Derived.Test.YtcpiaamaddfbcaaEngZ
import Derived.Test.YtcpiaamaddfbcaaAuK
import Derived.Test.YtcpiaamaddfbcaaAuC
import Derived.Test.YtcpiaamaddfbcaaAuD
import Derived.KernelRfl
set_option linter.unusedVariables false
set_option linter.unusedSimpArgs false
namespace Go.Proofs.Ytcpiaamaddfbcaa.E
open Go
set_option maxHeartbeats 4000000
set_option maxRecDepth 100000
set_option linter.unusedSimpArgs false
set_option linter.unusedVariables false
attribute [local congr] c_wp c_ops c_op c_opS c_run c_runS c_dt c_seq c_blk c_loop c_S c_put c_bind c_mv c_pick c_nt c_ng c_bin c_binI c_binS c_beq c_B c_eqa c_hd c_cells c_blkK c_box c_vec c_take c_ld c_ldF c_cellsK c_st c_fld c_fldv c_ix c_ixp c_ixv c_ixs c_sub c_subs c_len c_lens c_src c_dst c_ow c_app c_ext c_mm c_conv c_str c_isn c_fill c_rows c_boxo c_frz c_frzO c_frzA c_frzV c_spec c_specO c_opsP c_opP c_runP c_specP c_Z c_qretP c_fz c_fn c_gv c_cond c_res1 c_resL c_ret c_qret c_ite c_unr c_nx c_bk c_cut c_is
attribute [local irreducible] dwp

def firstB (e : Ev) (es : List Ev) : Bool := hasCre es && decide (e.prev = [(creEv es).ident]) && decide (e.sender = (creEv es).sender) && decide (e.key = (creEv es).sender) && decide (e.n = 3) && !hasMem es e.key
def ownR (m now rule : Int) : Int := if m = 3 then joinR rule now else if m = 2 then knockR rule now else 0
def levR (e : Ev) (es : List Ev) : Int := if userV (levelsL es) e.sender < needs (levelsL es) e.kind then 20 else if e.kind = 3 then chgR (levelsL es) e.lv e.sender else 0
def othR (e : Ev) (es : List Ev) (now : Int) : Int :=
  if memberL es e.sender ≠ 3 then 18 else
  if e.n = 1 ∧ userV (levelsL es) e.sender < (levelsL es).a5 then 20 else
  if e.n = 0 ∧ (now = 4 ∧ userV (levelsL es) e.sender < (levelsL es).a7 ∨ userV (levelsL es) e.sender < (levelsL es).a6 ∨ userV (levelsL es) e.sender ≤ userV (levelsL es) e.key) then 20 else
  if e.n = 4 ∧ (userV (levelsL es) e.sender < (levelsL es).a7 ∨ userV (levelsL es) e.sender ≤ userV (levelsL es) e.key) then 20 else 0
def memR' (e : Ev) (es : List Ev) : Int :=
  if e.key = e.sender ∧ memberL es e.key = 4 then 19 else
  if moveR (memberL es e.key) e.n (decide (e.key = e.sender)) = false then 18 else
  if e.key = e.sender then ownR e.n (memberL es e.key) (rulesL es).1 else othR e es (memberL es e.key)
def memR (e : Ev) (es : List Ev) : Int := if firstB e es = true then 0 else memR' e es
def allR (e : Ev) (es : List Ev) : Int :=
  if e.kind = 1 then (if hasCre es = false ∧ srvOf e.sender = srvOf e.room then 0 else 17) else
  if hasCre es = false then 17 else
  if e.kind = 2 then memR e es else
  if memberL es e.sender ≠ 3 then 18 else levR e es
theorem prev_one (l : List Int) (x : Int) : (l = [x]) = (l.length = 1 ∧ (l.map encN).getD 0 [] = [.int .i64 x]) := by
  match l with
  | [] => simp
  | [y] => simp [encN]
  | _ :: _ :: _ => simp
def ac37 : AC := (.seq (.ops [⟨(some 6), none, (.mv (.c (.int .i64 0)))⟩]) (.seq (.ops [⟨(some 10), none, (.mv (.t 2))⟩, ⟨(some 11), none, (.call false 54 [(.t 10)])⟩, ⟨(some 9), none, (.mv (.t 11))⟩, ⟨(some 12), none, (.ext (.t 9) 0)⟩, ⟨(some 13), none, (.ext (.t 9) 1)⟩, ⟨(some 7), none, (.mv (.t 12))⟩, ⟨(some 8), none, (.mv (.t 13))⟩]) (.seq (.seq (.ops [⟨(some 14), none, (.mv (.t 0))⟩]) (.block 0 (.seq (.ops [⟨(some 16), none, (.bin .eql (.t 14) (.c (.int .i64 3)))⟩, ⟨(some 15), none, (.mv (.t 16))⟩]) (.cond (.t 15) (.seq (.ops [⟨(some 17), none, (.mv (.t 7))⟩, ⟨(some 18), none, (.mv (.t 1))⟩, ⟨(some 19), none, (.call false 55 [(.t 17), (.t 18)])⟩, ⟨(some 6), none, (.mv (.t 19))⟩]) .ret) (.seq (.ops [⟨(some 21), none, (.bin .eql (.t 14) (.c (.int .i64 2)))⟩, ⟨(some 20), none, (.mv (.t 21))⟩]) (.cond (.t 20) (.seq (.ops [⟨(some 22), none, (.mv (.t 7))⟩, ⟨(some 23), none, (.mv (.t 1))⟩, ⟨(some 24), none, (.call false 56 [(.t 22), (.t 23)])⟩, ⟨(some 6), none, (.mv (.t 24))⟩]) .ret) .skip)))))) (.seq (.ops [⟨(some 6), none, (.mv (.c (.int .i64 0)))⟩]) .ret))))
theorem tr37 : Try.f37.body.bind (trCode Try.prog) = some (strip ac37) := by kernel_rfl
theorem spec37 (m now : Int) (es : List Ev) (hb : ∀ e ∈ es, e.allow.length ≤ 1000) : Spec Try.prog 37 [.fz (.int .i64 m), .fz (.int .i64 now), .fz (.sl 29 (es.map encEv))] (.fz (.int .i64 (ownR m now (rulesL es).1))) := by
  refine spec_at (n := 22) (ars := [(.t 6)]) (ac := ac37) Try.func37 (by kernel_rfl) (by kernel_rfl) tr37 (by kernel_rfl) ?_
  unfold ac37
  iterate 30 (all_goals (try (first
    | ((with_reducible refine of_kSpec ?_); refine call_fz (spec54 es hb) rfl ?_)
    | ((with_reducible refine of_kSpec ?_); refine call_fz (spec55 _ _) rfl ?_)
    | ((with_reducible refine of_kSpec ?_); refine call_fz (spec56 _ _) rfl ?_)
    | (with_reducible refine ite_in (fun _ => ?_) (fun _ => ?_))
    | (with_reducible refine ⟨fun _ => ?_, fun _ => ?_⟩)
    | (with_reducible refine And.intro ?_ ?_)
    | (with_reducible intro _)
    | (with_reducible exact is_in _)
    | (simp -implicitDefEqProofs only [SD, SF, SL, e_nf, reduceCtorEq, implies_true, ↓reduceIte, Nat.reduceEqDiff, Nat.reduceAdd, Nat.reduceMul, Nat.reduceSub, Nat.reduceLeDiff, Nat.reduceLT, Int.reduceLT, Int.reduceLE, Int.reduceEq, Int.reduceToNat, Int.reduceAdd, Int.reduceSub, Int.reduceNeg, Int.reduceBEq, Int.reduceBNe, Nat.reduceBEq, Int.cast_ofNat_Int, decide_true, decide_false, ne_eq, eq_self_iff_true, beq_eq_false_iff_ne, bne_iff_ne, List.replicate, *]))))
  all_goals (simp_all [ownR])
def ac42 : AC := (.seq (.ops [⟨(some 3), none, (.box (.t 0))⟩, ⟨(some 6), none, (.mv (.c (.int .i64 0)))⟩]) (.seq (.ops [⟨(some 10), none, (.mv (.t 1))⟩, ⟨(some 11), none, (.call false 61 [(.t 10)])⟩, ⟨(some 9), none, (.mv (.t 11))⟩, ⟨(some 12), none, (.ext (.t 9) 0)⟩, ⟨(some 13), none, (.ext (.t 9) 1)⟩, ⟨(some 7), none, (.mv (.t 12))⟩, ⟨(some 8), none, (.mv (.t 13))⟩]) (.seq (.seq (.ops [⟨(some 14), none, (.fld 10 (.t 3))⟩, ⟨(some 15), none, (.fld 1 (.t 14))⟩, ⟨(some 16), none, (.ld false 1 (.t 15))⟩, ⟨(some 17), none, (.bin .eql (.t 16) (.c (.int .i64 3)))⟩]) (.cond (.t 17) (.seq (.ops [⟨(some 18), none, (.mv (.t 7))⟩, ⟨(some 19), none, (.mv (.t 2))⟩, ⟨(some 20), none, (.call false 62 [(.t 18), (.t 19)])⟩, ⟨(some 6), none, (.mv (.t 20))⟩]) .ret) .skip)) (.seq (.seq (.ops [⟨(some 21), none, (.fld 10 (.t 3))⟩, ⟨(some 22), none, (.fld 1 (.t 21))⟩, ⟨(some 23), none, (.ld false 1 (.t 22))⟩, ⟨(some 24), none, (.bin .eql (.t 23) (.c (.int .i64 2)))⟩]) (.cond (.t 24) (.seq (.ops [⟨(some 25), none, (.mv (.t 7))⟩, ⟨(some 26), none, (.mv (.t 2))⟩, ⟨(some 27), none, (.call false 63 [(.t 25), (.t 26)])⟩, ⟨(some 6), none, (.mv (.t 27))⟩]) .ret) .skip)) (.seq (.ops [⟨(some 6), none, (.mv (.c (.int .i64 0)))⟩]) .ret)))))
theorem tr42 : Try.f42.body.bind (trCode Try.prog) = some (strip ac42) := by kernel_rfl
theorem spec42 (e : Ev) (es : List Ev) (now : Int) (hb : ∀ e ∈ es, e.allow.length ≤ 1000) : Spec Try.prog 42 [.fz (.agg (encEv e)), .fz (.sl 29 (es.map encEv)), .fz (.int .i64 now)] (.fz (.int .i64 (ownR e.n now (rulesL es).1))) := by
  refine spec_at (n := 25) (ars := [(.t 6)]) (ac := ac42) Try.func42 (by kernel_rfl) (by kernel_rfl) tr42 (by kernel_rfl) ?_
  unfold ac42
  iterate 30 (all_goals (try (first
    | ((with_reducible refine of_kSpec ?_); refine call_fz (spec61 es hb) rfl ?_)
    | ((with_reducible refine of_kSpec ?_); refine call_fz (spec62 _ _) rfl ?_)
    | ((with_reducible refine of_kSpec ?_); refine call_fz (spec63 _ _) rfl ?_)
    | (with_reducible refine ite_in (fun _ => ?_) (fun _ => ?_))
    | (with_reducible refine ⟨fun _ => ?_, fun _ => ?_⟩)
    | (with_reducible refine And.intro ?_ ?_)
    | (with_reducible intro _)
    | (with_reducible exact is_in _)
    | (simp -implicitDefEqProofs only [SD, SF, SL, e_nf, reduceCtorEq, implies_true, ↓reduceIte, Nat.reduceEqDiff, Nat.reduceAdd, Nat.reduceMul, Nat.reduceSub, Nat.reduceLeDiff, Nat.reduceLT, Int.reduceLT, Int.reduceLE, Int.reduceEq, Int.reduceToNat, Int.reduceAdd, Int.reduceSub, Int.reduceNeg, Int.reduceBEq, Int.reduceBNe, Nat.reduceBEq, Int.cast_ofNat_Int, decide_true, decide_false, ne_eq, eq_self_iff_true, beq_eq_false_iff_ne, bne_iff_ne, List.replicate, encEv, *]))))
  all_goals (simp_all [ownR])
def ac17 : AC := (.seq (.ops [⟨(some 2), none, (.box (.t 0))⟩, ⟨(some 4), none, (.mv (.c (.int .i64 0)))⟩]) (.seq (.ops [⟨(some 8), none, (.mv (.t 1))⟩, ⟨(some 9), none, (.call false 38 [(.t 8)])⟩, ⟨(some 7), none, (.mv (.t 9))⟩, ⟨(some 10), none, (.ext (.t 7) 0)⟩, ⟨(some 11), none, (.ext (.t 7) 1)⟩, ⟨(some 5), none, (.alloc [.e0, .e0, (.int .i64 0), (.int .i64 0), (.int .i64 0), (.int .i64 0), (.int .i64 0), (.int .i64 0), (.int .i64 0)])⟩, ⟨none, none, (.sto 9 (.t 5) (.t 10))⟩, ⟨(some 6), none, (.mv (.t 11))⟩]) (.seq (.seq (.draw (.q false ⟨(some 12), none, (.ld true 9 (.t 5))⟩ (.q false ⟨(some 13), none, (.fld 2 (.t 2))⟩ (.q false ⟨(some 14), none, (.ld false 1 (.t 13))⟩ (.q false ⟨(some 16), none, (.ld true 9 (.t 5))⟩ (.q false ⟨(some 17), none, (.fld 3 (.t 2))⟩ (.q false ⟨(some 18), none, (.ld false 1 (.t 17))⟩ (.op ⟨(some 15), none, (.call false 39 [(.t 12), (.t 14)])⟩ (.op ⟨(some 19), none, (.call false 44 [(.t 16), (.t 18)])⟩ (.q false ⟨(some 20), none, (.bin .lss (.t 15) (.t 19))⟩ .nil)))))))))) (.cond (.t 20) (.seq (.ops [⟨(some 4), none, (.mv (.c (.int .i64 20)))⟩]) .ret) .skip)) (.seq (.seq (.ops [⟨(some 21), none, (.fld 3 (.t 2))⟩, ⟨(some 22), none, (.ld false 1 (.t 21))⟩, ⟨(some 23), none, (.bin .eql (.t 22) (.c (.int .i64 3)))⟩]) (.cond (.t 23) (.seq (.ops [⟨(some 24), none, (.ld true 9 (.t 5))⟩, ⟨(some 25), none, (.fld 10 (.t 2))⟩, ⟨(some 26), none, (.fld 7 (.t 25))⟩, ⟨(some 27), none, (.ld true 9 (.t 26))⟩, ⟨(some 28), none, (.fld 2 (.t 2))⟩, ⟨(some 29), none, (.ld false 1 (.t 28))⟩, ⟨(some 30), none, (.call false 45 [(.t 24), (.t 27), (.t 29)])⟩, ⟨(some 4), none, (.mv (.t 30))⟩]) .ret) .skip)) (.seq (.ops [⟨(some 4), none, (.mv (.c (.int .i64 0)))⟩]) .ret)))))
theorem tr17 : Try.f17.body.bind (trCode Try.prog) = some (strip ac17) := by kernel_rfl
theorem spec17 (e : Ev) (es : List Ev) (hb : ∀ e ∈ es, e.lv.users.length ≤ 1000 ∧ e.lv.kinds.length ≤ 1000) : Spec Try.prog 17 [.fz (.agg (encEv e)), .fz (.sl 29 (es.map encEv))] (.fz (.int .i64 (levR e es))) := by
  refine spec_at (n := 29) (ars := [(.t 4)]) (ac := ac17) Try.func17 (by kernel_rfl) (by kernel_rfl) tr17 (by kernel_rfl) ?_
  unfold ac17
  iterate 30 (all_goals (try (first
    | ((with_reducible refine of_kSpec ?_); refine call_fz (spec38 es hb) rfl ?_)
    | ((with_reducible refine of_kSpec ?_); refine call_fz (spec39 (levelsL es) e.sender) rfl ?_)
    | ((with_reducible refine of_kSpec ?_); refine call_fz (spec44 (levelsL es) e.kind) rfl ?_)
    | ((with_reducible refine of_kSpec ?_); refine call_fz (spec45 (levelsL es) e.lv e.sender) rfl ?_)
    | (with_reducible refine ite_in (fun _ => ?_) (fun _ => ?_))
    | (with_reducible refine ⟨fun _ => ?_, fun _ => ?_⟩)
    | (with_reducible refine And.intro ?_ ?_)
    | (with_reducible intro _)
    | (with_reducible exact is_in _)
    | (simp -implicitDefEqProofs only [SD, SF, SL, e_nf, reduceCtorEq, implies_true, ↓reduceIte, Nat.reduceEqDiff, Nat.reduceAdd, Nat.reduceMul, Nat.reduceSub, Nat.reduceLeDiff, Nat.reduceLT, Int.reduceLT, Int.reduceLE, Int.reduceEq, Int.reduceToNat, Int.reduceAdd, Int.reduceSub, Int.reduceNeg, Int.reduceBEq, Int.reduceBNe, Nat.reduceBEq, Int.cast_ofNat_Int, decide_true, decide_false, ne_eq, eq_self_iff_true, beq_eq_false_iff_ne, bne_iff_ne, List.replicate, encEv, encLv, *]))))
  all_goals (first | (simp_all [levR, userV]; done) | (simp_all [levR, userV]; omega))
def ac18 : AC := (.seq (.ops [⟨(some 2), none, (.box (.t 0))⟩, ⟨(some 4), none, (.mv (.c (.int .i64 0)))⟩]) (.seq (.ops [⟨(some 8), none, (.mv (.t 1))⟩, ⟨(some 9), none, (.call false 20 [(.t 8)])⟩, ⟨(some 7), none, (.mv (.t 9))⟩, ⟨(some 10), none, (.ext (.t 7) 0)⟩, ⟨(some 11), none, (.ext (.t 7) 1)⟩, ⟨(some 5), none, (.alloc [.e0, .e0, (.int .i64 0), (.int .i64 0), (.int .i64 0), (.int .i64 0), (.int .i64 0), (.int .i64 0), (.int .i64 0)])⟩, ⟨none, none, (.sto 9 (.t 5) (.t 10))⟩, ⟨(some 6), none, (.mv (.t 11))⟩]) (.seq (.seq (.draw (.q false ⟨(some 12), none, (.ld true 9 (.t 5))⟩ (.q false ⟨(some 13), none, (.fld 2 (.t 2))⟩ (.q false ⟨(some 14), none, (.ld false 1 (.t 13))⟩ (.q false ⟨(some 16), none, (.ld true 9 (.t 5))⟩ (.q false ⟨(some 17), none, (.fld 3 (.t 2))⟩ (.q false ⟨(some 18), none, (.ld false 1 (.t 17))⟩ (.op ⟨(some 15), none, (.call false 21 [(.t 12), (.t 14)])⟩ (.op ⟨(some 19), none, (.call false 46 [(.t 16), (.t 18)])⟩ (.q false ⟨(some 20), none, (.bin .lss (.t 15) (.t 19))⟩ .nil)))))))))) (.cond (.t 20) (.seq (.ops [⟨(some 4), none, (.mv (.c (.int .i64 20)))⟩]) .ret) .skip)) (.seq (.seq (.ops [⟨(some 21), none, (.fld 3 (.t 2))⟩, ⟨(some 22), none, (.ld false 1 (.t 21))⟩, ⟨(some 23), none, (.bin .eql (.t 22) (.c (.int .i64 3)))⟩]) (.cond (.t 23) (.seq (.ops [⟨(some 24), none, (.ld true 9 (.t 5))⟩, ⟨(some 25), none, (.fld 10 (.t 2))⟩, ⟨(some 26), none, (.fld 7 (.t 25))⟩, ⟨(some 27), none, (.ld true 9 (.t 26))⟩, ⟨(some 28), none, (.fld 2 (.t 2))⟩, ⟨(some 29), none, (.ld false 1 (.t 28))⟩, ⟨(some 30), none, (.call false 47 [(.t 24), (.t 27), (.t 29)])⟩, ⟨(some 4), none, (.mv (.t 30))⟩]) .ret) .skip)) (.seq (.ops [⟨(some 4), none, (.mv (.c (.int .i64 0)))⟩]) .ret)))))
theorem tr18 : Try.f18.body.bind (trCode Try.prog) = some (strip ac18) := by kernel_rfl
theorem spec18 (e : Ev) (es : List Ev) (hb : ∀ e ∈ es, e.lv.users.length ≤ 1000 ∧ e.lv.kinds.length ≤ 1000) (hk : e.lv.kinds.length ≤ 1000) (hL : (levelsL es).kinds.length ≤ 1000) : Spec Try.prog 18 [.fz (.agg (encEv e)), .fz (.sl 29 (es.map encEv))] (.fz (.int .i64 (levR e es))) := by
  refine spec_at (n := 29) (ars := [(.t 4)]) (ac := ac18) Try.func18 (by kernel_rfl) (by kernel_rfl) tr18 (by kernel_rfl) ?_
  unfold ac18
  iterate 30 (all_goals (try (first
    | ((with_reducible refine of_kSpec ?_); refine call_fz (spec20 es) rfl ?_)
    | ((with_reducible refine of_kSpec ?_); refine call_fz (spec21 (levelsL es) e.sender) rfl ?_)
    | ((with_reducible refine of_kSpec ?_); refine call_fz (spec46 (levelsL es) e.kind) rfl ?_)
    | ((with_reducible refine of_kSpec ?_); refine call_fz (spec47 (levelsL es) e.lv e.sender ⟨hL, hk⟩) rfl ?_)
    | (with_reducible refine ite_in (fun _ => ?_) (fun _ => ?_))
    | (with_reducible refine ⟨fun _ => ?_, fun _ => ?_⟩)
    | (with_reducible refine And.intro ?_ ?_)
    | (with_reducible intro _)
    | (with_reducible exact is_in _)
    | (simp -implicitDefEqProofs only [SD, SF, SL, e_nf, reduceCtorEq, implies_true, ↓reduceIte, Nat.reduceEqDiff, Nat.reduceAdd, Nat.reduceMul, Nat.reduceSub, Nat.reduceLeDiff, Nat.reduceLT, Int.reduceLT, Int.reduceLE, Int.reduceEq, Int.reduceToNat, Int.reduceAdd, Int.reduceSub, Int.reduceNeg, Int.reduceBEq, Int.reduceBNe, Nat.reduceBEq, Int.cast_ofNat_Int, decide_true, decide_false, ne_eq, eq_self_iff_true, beq_eq_false_iff_ne, bne_iff_ne, List.replicate, encEv, encLv, *]))))
  all_goals (first | (simp_all [levR, userV]; done) | (simp_all [levR, userV]; omega))

end Go.Proofs.Ytcpiaamaddfbcaa.E
