/-
  ItA: walks of functions of the program at data level.
-/
import Derived.Test.YtcolebkklojccaaGreatProg
import Derived.Test.YtcolebkklojccaaGreatEngZ
import Derived.Test.YtcolebkklojccaaGreatAuE
import Derived.KernelRfl
set_option linter.unusedVariables false
set_option linter.unusedSimpArgs false
namespace Go.Proofs.YtcolebkklojccaaGreat.E
open Go
set_option maxHeartbeats 4000000
set_option maxRecDepth 100000
set_option linter.unusedSimpArgs false
set_option linter.unusedVariables false
attribute [local congr] c_wp c_ops c_op c_opS c_run c_runS c_dt c_seq c_blk c_loop c_S c_put c_bind c_mv c_pick c_nt c_ng c_bin c_binI c_binS c_beq c_B c_eqa c_hd c_cells c_blkK c_box c_vec c_mp c_nck c_mks c_appn c_mkm c_mput c_mlk c_mrm c_take c_ld c_ldF c_cellsK c_st c_fld c_fldv c_ix c_ixp c_ixv c_ixs c_sub c_subs c_len c_lens c_src c_dst c_ow c_app c_ext c_mm c_conv c_str c_isn c_fill c_rows c_boxo c_frz c_frzO c_frzA c_frzV c_spec c_specO c_opsP c_opP c_runP c_specP c_Z c_qretP c_fz c_fn c_gv c_cond c_res1 c_resL c_ret c_qret c_ite c_unr c_nx c_bk c_cut c_is
attribute [local irreducible] dwp

structure Ent where
  kind : Int
  key : List UInt8
  ident : Int
instance : DecidableEq Ent := fun a b => by
  cases a; cases b; simp only [Ent.mk.injEq]; infer_instance
def encEnt (x : Ent) : List DV := [.int .i64 x.kind, .str x.key, .int .i64 x.ident]
def precB (a b : Ent) : Bool := decide (a.kind < b.kind) || (decide (a.kind = b.kind) && Op.bytesLess a.key b.key)
def bq (q y : Ent) : Bool := precB y q
theorem tw_end {p : Ent → Bool} : ∀ {l : List Ent}, l.all p = true → l.takeWhile p = l ∧ l.dropWhile p = []
  | [], _ => ⟨rfl, rfl⟩
  | x :: l, h => by
    simp only [List.all_cons, Bool.and_eq_true] at h
    obtain ⟨h1, h2⟩ := tw_end h.2
    rw [List.takeWhile_cons, List.dropWhile_cons, h.1, h1, h2]
    exact ⟨rfl, rfl⟩
theorem tw_mid {p : Ent → Bool} {x : Ent} {rest : List Ent} (hx : p x = false) : ∀ {l : List Ent}, l.all p = true → (l ++ x :: rest).takeWhile p = l ∧ (l ++ x :: rest).dropWhile p = x :: rest
  | [], _ => by rw [List.nil_append, List.takeWhile_cons, List.dropWhile_cons, hx]; exact ⟨rfl, rfl⟩
  | y :: l, h => by
    simp only [List.all_cons, Bool.and_eq_true] at h
    obtain ⟨h1, h2⟩ := tw_mid hx h.2 (rest := rest)
    rw [List.cons_append, List.takeWhile_cons, List.dropWhile_cons, h.1, h1, h2]
    exact ⟨rfl, rfl⟩

/-- where an entry stands, or belongs -/
def findS (l : List Ent) (q : Ent) : Nat × Bool := ((l.takeWhile (bq q)).length, match l.dropWhile (bq q) with | [] => false | y :: _ => !precB q y)
theorem find_cases : ∀ (l : List Ent) (q : Ent), (l.all (bq q) = true ∧ findS l q = (l.length, false)) ∨ ∃ pre y rest, l = pre ++ y :: rest ∧ pre.all (bq q) = true ∧ bq q y = false ∧ findS l q = (pre.length, !precB q y)
  | [], q => .inl ⟨rfl, rfl⟩
  | x :: l, q => by
    by_cases hx : bq q x = true
    · rcases find_cases l q with ⟨h1, h2⟩ | ⟨pre, y, rest, rfl, h2, h3, h4⟩
      · refine .inl ⟨by simp [hx, h1], ?_⟩
        have := tw_end (p := bq q) (l := x :: l) (by simp [hx, h1])
        unfold findS
        rw [this.1, this.2]
      · have ha : (x :: pre).all (bq q) = true := by simp [hx, h2]
        refine .inr ⟨x :: pre, y, rest, rfl, ha, h3, ?_⟩
        have := tw_mid (p := bq q) h3 ha (rest := rest)
        unfold findS
        rw [show x :: (pre ++ y :: rest) = (x :: pre) ++ y :: rest from rfl, this.1, this.2]
    · have hx' : bq q x = false := by simpa using hx
      refine .inr ⟨[], x, l, rfl, rfl, hx', ?_⟩
      unfold findS
      rw [List.takeWhile_cons, List.dropWhile_cons, hx']
      rfl
theorem find_end {l : List Ent} {q : Ent} (h : l.all (bq q) = true) : findS l q = (l.length, false) := by
  unfold findS
  rw [(tw_end h).1, (tw_end h).2]
theorem find_mid {l pre : List Ent} {y : Ent} {rest : List Ent} {q : Ent} (he : l = pre ++ y :: rest) (h : pre.all (bq q) = true) (hy : bq q y = false) : findS l q = (pre.length, !precB q y) := by
  subst he
  have := tw_mid (p := bq q) hy h (rest := rest)
  unfold findS
  rw [this.1, this.2]
def getS (l : List Ent) (q : Ent) : Int × Bool := match l.dropWhile (bq q) with
  | [] => (0, false)
  | y :: _ => if precB q y = false then (y.ident, true) else (0, false)
def setS (l : List Ent) (q : Ent) : List Ent := l.takeWhile (bq q) ++ q :: (match l.dropWhile (bq q) with
  | [] => []
  | y :: rest => if precB q y = false then rest else y :: rest)
def ac62 : AC := (.seq (.ops [⟨(some 2), none, (.box (.t 0))⟩, ⟨(some 3), none, (.box (.t 1))⟩, ⟨(some 4), none, (.mv (.c (.bool false)))⟩]) (.seq (.ops [⟨(some 5), none, (.fld 0 (.t 2))⟩, ⟨(some 6), none, (.ld false 1 (.t 5))⟩, ⟨(some 7), none, (.fld 0 (.t 3))⟩, ⟨(some 8), none, (.ld false 1 (.t 7))⟩, ⟨(some 9), none, (.bin .lss (.t 6) (.t 8))⟩, ⟨(some 10), none, (.mv (.t 9))⟩, ⟨(some 11), (some (10, false)), (.fld 0 (.t 2))⟩, ⟨(some 12), (some (10, false)), (.ld false 1 (.t 11))⟩, ⟨(some 13), (some (10, false)), (.fld 0 (.t 3))⟩, ⟨(some 14), (some (10, false)), (.ld false 1 (.t 13))⟩, ⟨(some 15), (some (10, false)), (.bin .eql (.t 12) (.t 14))⟩, ⟨(some 16), (some (10, false)), (.mv (.t 15))⟩, ⟨(some 17), (some (16, true)), (.fld 1 (.t 2))⟩, ⟨(some 18), (some (16, true)), (.ld false 1 (.t 17))⟩, ⟨(some 19), (some (16, true)), (.fld 1 (.t 3))⟩, ⟨(some 20), (some (16, true)), (.ld false 1 (.t 19))⟩, ⟨(some 21), (some (16, true)), (.bin .lss (.t 18) (.t 20))⟩, ⟨(some 22), (some (10, false)), (.pick (.t 16) (.t 21) (.c (.bool false)))⟩, ⟨(some 23), none, (.pick (.t 10) (.c (.bool true)) (.t 22))⟩, ⟨(some 4), none, (.mv (.t 23))⟩]) .ret))
theorem tr62 : Tryz.f62.body.bind (trCode Tryz.prog) = some (strip ac62) := by kernel_rfl
theorem spec62 (a b : Ent) : Spec Tryz.prog 62 [.fz (.agg (encEnt a)), .fz (.agg (encEnt b))] (.fz (.bool (precB a b))) := by
  refine spec_at (n := 22) (ars := [(.t 4)]) (ac := ac62) Tryz.func62 (by kernel_rfl) (by kernel_rfl) tr62 (by kernel_rfl) ?_
  unfold ac62
  iterate 30 (all_goals (try (first
    | (with_reducible refine ite_in (fun _ => ?_) (fun _ => ?_))
    | (with_reducible refine ⟨fun _ => ?_, fun _ => ?_⟩)
    | (with_reducible refine And.intro ?_ ?_)
    | (with_reducible intro _)
    | (with_reducible exact is_in _)
    | (simp -implicitDefEqProofs only [SD, SF, SL, e_nf, reduceCtorEq, implies_true, ↓reduceIte, Nat.reduceEqDiff, Nat.reduceAdd, Nat.reduceMul, Nat.reduceSub, Nat.reduceLeDiff, Nat.reduceLT, Int.reduceLT, Int.reduceLE, Int.reduceEq, Int.reduceToNat, Int.reduceAdd, Int.reduceSub, Int.reduceNeg, Int.reduceBEq, Int.reduceBNe, Nat.reduceBEq, Int.cast_ofNat_Int, decide_true, decide_false, ne_eq, eq_self_iff_true, beq_eq_false_iff_ne, bne_iff_ne, List.replicate, encEnt, *]))))
  all_goals (first | (simp_all [precB]; done) | (simp_all [precB]; omega) | grind [precB])
def ac61 : AC := (.seq (.ops [⟨(some 2), none, (.box (.t 0))⟩, ⟨(some 3), none, (.mv (.c (.bool false)))⟩]) (.seq (.ops [⟨(some 4), none, (.ld true 3 (.t 2))⟩, ⟨(some 5), none, (.ld true 3 (.t 1))⟩, ⟨(some 6), none, (.call false 62 [(.t 4), (.t 5)])⟩, ⟨(some 3), none, (.mv (.t 6))⟩]) .ret))
theorem tr61 : Tryz.f61.body.bind (trCode Tryz.prog) = some (strip ac61) := by kernel_rfl
theorem spec61 (e x : Ent) : Spec Tryz.prog 61 [.fz (.agg (encEnt e)), .fz (.pf (encEnt x))] (.fz (.bool (precB e x))) := by
  refine spec_at (n := 5) (ars := [(.t 3)]) (ac := ac61) Tryz.func61 (by kernel_rfl) (by kernel_rfl) tr61 (by kernel_rfl) ?_
  unfold ac61
  iterate 30 (all_goals (try (first
    | ((with_reducible refine of_kSpec ?_); refine call_fz (spec62 e x) rfl ?_)
    | (with_reducible refine ite_in (fun _ => ?_) (fun _ => ?_))
    | (with_reducible refine ⟨fun _ => ?_, fun _ => ?_⟩)
    | (with_reducible refine And.intro ?_ ?_)
    | (with_reducible intro _)
    | (with_reducible exact is_in _)
    | (simp -implicitDefEqProofs only [SD, SF, SL, e_nf, reduceCtorEq, implies_true, ↓reduceIte, Nat.reduceEqDiff, Nat.reduceAdd, Nat.reduceMul, Nat.reduceSub, Nat.reduceLeDiff, Nat.reduceLT, Int.reduceLT, Int.reduceLE, Int.reduceEq, Int.reduceToNat, Int.reduceAdd, Int.reduceSub, Int.reduceNeg, Int.reduceBEq, Int.reduceBNe, Nat.reduceBEq, Int.cast_ofNat_Int, decide_true, decide_false, ne_eq, eq_self_iff_true, beq_eq_false_iff_ne, bne_iff_ne, List.replicate, encEnt, *]))))
def ac63 : AC := (.seq (.ops [⟨(some 2), none, (.box (.t 0))⟩, ⟨(some 3), none, (.mv (.c (.bool false)))⟩]) (.seq (.ops [⟨(some 4), none, (.ld true 3 (.t 1))⟩, ⟨(some 5), none, (.ld true 3 (.t 2))⟩, ⟨(some 6), none, (.call false 62 [(.t 4), (.t 5)])⟩, ⟨(some 7), none, (.nt (.t 6))⟩, ⟨(some 3), none, (.mv (.t 7))⟩]) .ret))
theorem tr63 : Tryz.f63.body.bind (trCode Tryz.prog) = some (strip ac63) := by kernel_rfl
theorem spec63 (e x : Ent) : Spec Tryz.prog 63 [.fz (.agg (encEnt e)), .fz (.pf (encEnt x))] (.fz (.bool (!precB x e))) := by
  refine spec_at (n := 6) (ars := [(.t 3)]) (ac := ac63) Tryz.func63 (by kernel_rfl) (by kernel_rfl) tr63 (by kernel_rfl) ?_
  unfold ac63
  iterate 30 (all_goals (try (first
    | ((with_reducible refine of_kSpec ?_); refine call_fz (spec62 x e) rfl ?_)
    | (with_reducible refine ite_in (fun _ => ?_) (fun _ => ?_))
    | (with_reducible refine ⟨fun _ => ?_, fun _ => ?_⟩)
    | (with_reducible refine And.intro ?_ ?_)
    | (with_reducible intro _)
    | (with_reducible exact is_in _)
    | (simp -implicitDefEqProofs only [SD, SF, SL, e_nf, reduceCtorEq, implies_true, ↓reduceIte, Nat.reduceEqDiff, Nat.reduceAdd, Nat.reduceMul, Nat.reduceSub, Nat.reduceLeDiff, Nat.reduceLT, Int.reduceLT, Int.reduceLE, Int.reduceEq, Int.reduceToNat, Int.reduceAdd, Int.reduceSub, Int.reduceNeg, Int.reduceBEq, Int.reduceBNe, Nat.reduceBEq, Int.cast_ofNat_Int, decide_true, decide_false, ne_eq, eq_self_iff_true, beq_eq_false_iff_ne, bne_iff_ne, List.replicate, encEnt, *]))))
def ac60 : AC := (.seq (.ops [⟨(some 6), none, (.mv (.c (.int .i64 0)))⟩, ⟨(some 7), none, (.mv (.c (.bool false)))⟩]) (.seq (.ops [⟨(some 8), none, (.mv (.c (.int .i64 0)))⟩]) (.seq (.block 0 (.loop (.seq (.seq (.ops [⟨(some 9), none, (.mv (.t 8))⟩, ⟨(some 10), none, (.mv (.t 0))⟩, ⟨(some 11), none, (.len (.t 10))⟩, ⟨(some 12), none, (.bin .lss (.t 9) (.t 11))⟩, ⟨(some 13), none, (.mv (.t 12))⟩, ⟨(some 14), (some (13, true)), (.mv (.t 1))⟩, ⟨(some 15), (some (13, true)), (.mv (.t 0))⟩, ⟨(some 16), (some (13, true)), (.mv (.t 8))⟩, ⟨(some 17), (some (13, true)), (.ix 3 (.t 15) (.t 16))⟩, ⟨(some 18), (some (13, true)), (.ld true 3 (.t 17))⟩, ⟨(some 19), (some (13, true)), (.callv (.t 14) [(.t 18)])⟩, ⟨(some 20), none, (.pick (.t 13) (.t 19) (.c (.bool false)))⟩]) (.cond (.t 20) .skip (.exit 0))) (.block 1 (.ops [⟨(some 21), none, (.mv (.t 8))⟩, ⟨(some 22), none, (.bin .add (.t 21) (.c (.int .i64 1)))⟩, ⟨(some 8), none, (.mv (.t 22))⟩]))))) (.seq (.ops [⟨(some 23), none, (.mv (.t 8))⟩, ⟨(some 24), none, (.mv (.t 8))⟩, ⟨(some 25), none, (.mv (.t 0))⟩, ⟨(some 26), none, (.len (.t 25))⟩, ⟨(some 27), none, (.bin .lss (.t 24) (.t 26))⟩, ⟨(some 28), none, (.mv (.t 27))⟩, ⟨(some 29), (some (28, true)), (.mv (.t 2))⟩, ⟨(some 30), (some (28, true)), (.mv (.t 0))⟩, ⟨(some 31), (some (28, true)), (.mv (.t 8))⟩, ⟨(some 32), (some (28, true)), (.ix 3 (.t 30) (.t 31))⟩, ⟨(some 33), (some (28, true)), (.ld true 3 (.t 32))⟩, ⟨(some 34), (some (28, true)), (.callv (.t 29) [(.t 33)])⟩, ⟨(some 35), none, (.pick (.t 28) (.t 34) (.c (.bool false)))⟩, ⟨(some 6), none, (.mv (.t 23))⟩, ⟨(some 7), none, (.mv (.t 35))⟩]) .ret))))
theorem tr60 : Tryz.f60.body.bind (trCode Tryz.prog) = some (strip ac60) := by kernel_rfl
theorem spec60 (l : List Ent) (q : Ent) (hb : l.length ≤ 1000) : Spec Tryz.prog 60 [.fz (.sl 3 (l.map encEnt)), .fz (.fn 61 [.pf (encEnt q)]), .fz (.fn 63 [.pf (encEnt q)])] (.fz (.tup [.int .i64 ((findS l q).1 : Nat), .bool (findS l q).2])) := by
  refine spec_at (n := 33) (ars := [(.t 6), (.t 7)]) (ac := ac60) Tryz.func60 (by kernel_rfl) (by kernel_rfl) tr60 (by kernel_rfl) ?_
  unfold ac60
  iterate 6 (all_goals (try (first
    | (with_reducible refine ite_in (fun _ => ?_) (fun _ => ?_))
    | (with_reducible refine ⟨fun _ => ?_, fun _ => ?_⟩)
    | (with_reducible refine And.intro ?_ ?_)
    | (with_reducible intro _)
    | (with_reducible exact is_in _)
    | (simp -implicitDefEqProofs only [SD, SF, SL, e_nf, reduceCtorEq, implies_true, ↓reduceIte, Nat.reduceEqDiff, Nat.reduceAdd, Nat.reduceMul, Nat.reduceSub, Nat.reduceLeDiff, Nat.reduceLT, Int.reduceLT, Int.reduceLE, Int.reduceEq, Int.reduceToNat, Int.reduceAdd, Int.reduceSub, Int.reduceNeg, Int.reduceBEq, Int.reduceBNe, Nat.reduceBEq, Int.cast_ofNat_Int, decide_true, decide_false, ne_eq, eq_self_iff_true, beq_eq_false_iff_ne, bne_iff_ne, List.replicate, encEnt, *]))))
  refine loop_q (X := List Ent × List Ent × Unit) (fun n x => l = x.1 ++ x.2.1 ∧ n = x.2.1.length ∧ (x.1.all (bq q) = true)) (fun x => [(8, .int .i64 x.1.length)]) (fun _ => []) [9, 10, 11, 12, 13, 14, 15, 16, 17, 18, 19, 20, 21, 22] []  (l).length ([], l, ()) ⟨rfl, rfl, by rfl⟩ ?_ ?_
  · simp -implicitDefEqProofs only [SD, SF, SL, e_nf, reduceCtorEq, implies_true, ↓reduceIte, Nat.reduceEqDiff, Nat.reduceAdd, Nat.reduceMul, Nat.reduceSub, Nat.reduceLeDiff, Nat.reduceLT, Int.reduceLT, Int.reduceLE, Int.reduceEq, Int.reduceToNat, Int.reduceAdd, Int.reduceSub, Int.reduceNeg, Int.reduceBEq, Int.reduceBNe, Nat.reduceBEq, Int.cast_ofNat_Int, decide_true, decide_false, ne_eq, eq_self_iff_true, beq_eq_false_iff_ne, bne_iff_ne, List.replicate, encEnt] <;> simp
  · rintro n ⟨pre, rest, a⟩ ⟨he, rfl, hI⟩
    dsimp only at he hI
    cases rest with
    | nil =>
      obtain rfl : l = pre := by simpa using he
      clear he
      have hlt : ¬ (((l).length : Int) < ((l).length : Int)) := Int.lt_irrefl _
      have hf := find_end hI
      have hf1 : (findS l q).1 = l.length := by rw [hf]
      have hf2 : (findS l q).2 = false := by rw [hf]
      clear hf
      iterate 30 (all_goals (try (first
        | ((with_reducible refine of_kSpec ?_); refine call_fz (spec61 x q) rfl ?_)
        | ((with_reducible refine of_kSpec ?_); refine call_fz (spec63 x q) rfl ?_)
        | (with_reducible refine ite_in (fun _ => ?_) (fun _ => ?_))
        | (with_reducible refine ⟨fun _ => ?_, fun _ => ?_⟩)
        | (with_reducible refine And.intro ?_ ?_)
        | (with_reducible intro _)
        | (with_reducible exact is_in _)
        | (simp -implicitDefEqProofs only [SD, SF, SL, e_nf, reduceCtorEq, implies_true, ↓reduceIte, Nat.reduceEqDiff, Nat.reduceAdd, Nat.reduceMul, Nat.reduceSub, Nat.reduceLeDiff, Nat.reduceLT, Int.reduceLT, Int.reduceLE, Int.reduceEq, Int.reduceToNat, Int.reduceAdd, Int.reduceSub, Int.reduceNeg, Int.reduceBEq, Int.reduceBNe, Nat.reduceBEq, Int.cast_ofNat_Int, decide_true, decide_false, ne_eq, eq_self_iff_true, beq_eq_false_iff_ne, bne_iff_ne, List.replicate, encEnt, *]))))
      all_goals (first | rfl | (simp_all; done) | trace_state)

    | cons x rest =>
      have hlt := cut_lt he
      have hx := cutD encEnt he
      simp only [encEnt] at hx
      simp -implicitDefEqProofs only [SD, SF, SL, e_nf, reduceCtorEq, implies_true, ↓reduceIte, Nat.reduceEqDiff, Nat.reduceAdd, Nat.reduceMul, Nat.reduceSub, Nat.reduceLeDiff, Nat.reduceLT, Int.reduceLT, Int.reduceLE, Int.reduceEq, Int.reduceToNat, Int.reduceAdd, Int.reduceSub, Int.reduceNeg, Int.reduceBEq, Int.reduceBNe, Nat.reduceBEq, Int.cast_ofNat_Int, decide_true, decide_false, ne_eq, eq_self_iff_true, beq_eq_false_iff_ne, bne_iff_ne, List.replicate, encEnt, hlt]
      intro hl
      have hw := wrap_len (n := pre.length) (m := (l).length) (cut_lt' he) (by simp only [maxLen]; omega)
      replace he := Hd.mk he
      have hbq : bq q x = precB x q := rfl
      by_cases hp : precB x q = true
      all_goals (have hml : l.length ≤ maxLen := by simp only [maxLen]; omega)
      all_goals try (have hf := find_mid he.out hI (by rw [hbq]; simpa using hp); have hf1 : (findS l q).1 = pre.length := (by rw [hf]); have hf2 : (findS l q).2 = !precB q x := (by rw [hf]); clear hf)
      all_goals try replace hp : precB x q = false := (by simpa using hp)
      all_goals clear hbq
      iterate 30 (all_goals (try (first
        | ((with_reducible refine back_in rest.length [9, 10, 11, 12, 13, 14, 15, 16, 17, 18, 19, 20, 21, 22] [] (pre ++ [x], rest, a) ?_ ⟨?_, ?_, ?_⟩ ?_)
           · simp
           · exact cut_snoc he.out
           · rfl
           · first | rfl | (simp only [List.all_append, List.all_cons, List.all_nil, Bool.and_true, Bool.and_eq_true]; exact ⟨hI, hp⟩)
           · first | (simp -implicitDefEqProofs only [SD, SF, SL, e_nf, reduceCtorEq, implies_true, ↓reduceIte, Nat.reduceEqDiff, Nat.reduceAdd, Nat.reduceMul, Nat.reduceSub, Nat.reduceLeDiff, Nat.reduceLT, Int.reduceLT, Int.reduceLE, Int.reduceEq, Int.reduceToNat, Int.reduceAdd, Int.reduceSub, Int.reduceNeg, Int.reduceBEq, Int.reduceBNe, Nat.reduceBEq, Int.cast_ofNat_Int, decide_true, decide_false, ne_eq, eq_self_iff_true, beq_eq_false_iff_ne, bne_iff_ne, List.replicate, encEnt] <;> simp <;> done) | (simp -implicitDefEqProofs only [SD, SF, SL, e_nf, reduceCtorEq, implies_true, ↓reduceIte, Nat.reduceEqDiff, Nat.reduceAdd, Nat.reduceMul, Nat.reduceSub, Nat.reduceLeDiff, Nat.reduceLT, Int.reduceLT, Int.reduceLE, Int.reduceEq, Int.reduceToNat, Int.reduceAdd, Int.reduceSub, Int.reduceNeg, Int.reduceBEq, Int.reduceBNe, Nat.reduceBEq, Int.cast_ofNat_Int, decide_true, decide_false, ne_eq, eq_self_iff_true, beq_eq_false_iff_ne, bne_iff_ne, List.replicate, encEnt, *] <;> simp_all <;> done))
        | ((with_reducible refine of_kSpec ?_); refine call_fz (spec61 x q) rfl ?_)
        | ((with_reducible refine of_kSpec ?_); refine call_fz (spec63 x q) rfl ?_)
        | (with_reducible refine ite_in (fun _ => ?_) (fun _ => ?_))
        | (with_reducible refine ⟨fun _ => ?_, fun _ => ?_⟩)
        | (with_reducible refine And.intro ?_ ?_)
        | (with_reducible intro _)
        | (with_reducible exact is_in _)
        | (simp -implicitDefEqProofs only [SD, SF, SL, e_nf, reduceCtorEq, implies_true, ↓reduceIte, Nat.reduceEqDiff, Nat.reduceAdd, Nat.reduceMul, Nat.reduceSub, Nat.reduceLeDiff, Nat.reduceLT, Int.reduceLT, Int.reduceLE, Int.reduceEq, Int.reduceToNat, Int.reduceAdd, Int.reduceSub, Int.reduceNeg, Int.reduceBEq, Int.reduceBNe, Nat.reduceBEq, Int.cast_ofNat_Int, decide_true, decide_false, ne_eq, eq_self_iff_true, beq_eq_false_iff_ne, bne_iff_ne, List.replicate, encEnt, *]))))
      all_goals (first | rfl | omega | (simp_all; done) | trace_state)
def ac45 : AC := (.seq (.ops [⟨(some 6), none, (.mv (.c (.int .i64 0)))⟩, ⟨(some 7), none, (.mv (.c (.bool false)))⟩]) (.seq (.ops [⟨(some 9), none, (.mv (.t 1))⟩, ⟨(some 10), none, (.mv (.t 2))⟩, ⟨(some 11), none, (.build [(.int .i64 0), (.str []), (.int .i64 0)] [(0, (1, (.t 9))), (1, (1, (.t 10)))])⟩, ⟨(some 8), none, (.alloc [(.int .i64 0), (.str []), (.int .i64 0)])⟩, ⟨none, none, (.sto 3 (.t 8) (.t 11))⟩]) (.seq (.ops [⟨(some 12), none, (.mv (.t 0))⟩, ⟨(some 13), none, (.mkfn 61 [(.t 8)])⟩, ⟨(some 14), none, (.mkfn 63 [(.t 8)])⟩, ⟨(some 15), none, (.call false 60 [(.t 12), (.t 13), (.t 14)])⟩, ⟨(some 16), none, (.ext (.t 15) 0)⟩, ⟨(some 17), none, (.ext (.t 15) 1)⟩, ⟨(some 6), none, (.mv (.t 16))⟩, ⟨(some 7), none, (.mv (.t 17))⟩]) .ret)))
theorem tr45 : Tryz.f45.body.bind (trCode Tryz.prog) = some (strip ac45) := by kernel_rfl
theorem spec45 (l : List Ent) (k : Int) (u : List UInt8) (hb : l.length ≤ 1000) : Spec Tryz.prog 45 [.fz (.sl 3 (l.map encEnt)), .fz (.int .i64 k), .fz (.str u)] (.fz (.tup [.int .i64 ((findS l ⟨k, u, 0⟩).1 : Nat), .bool (findS l ⟨k, u, 0⟩).2])) := by
  refine spec_at (n := 15) (ars := [(.t 6), (.t 7)]) (ac := ac45) Tryz.func45 (by kernel_rfl) (by kernel_rfl) tr45 (by kernel_rfl) ?_
  unfold ac45
  iterate 30 (all_goals (try (first
    | ((with_reducible refine of_kSpec ?_); refine call_fz (spec60 l ⟨k, u, 0⟩ hb) rfl ?_)
    | (with_reducible refine ite_in (fun _ => ?_) (fun _ => ?_))
    | (with_reducible refine ⟨fun _ => ?_, fun _ => ?_⟩)
    | (with_reducible refine And.intro ?_ ?_)
    | (with_reducible intro _)
    | (with_reducible exact is_in _)
    | (simp -implicitDefEqProofs only [SD, SF, SL, e_nf, reduceCtorEq, implies_true, ↓reduceIte, Nat.reduceEqDiff, Nat.reduceAdd, Nat.reduceMul, Nat.reduceSub, Nat.reduceLeDiff, Nat.reduceLT, Int.reduceLT, Int.reduceLE, Int.reduceEq, Int.reduceToNat, Int.reduceAdd, Int.reduceSub, Int.reduceNeg, Int.reduceBEq, Int.reduceBNe, Nat.reduceBEq, Int.cast_ofNat_Int, decide_true, decide_false, ne_eq, eq_self_iff_true, beq_eq_false_iff_ne, bne_iff_ne, List.replicate, encEnt, *]))))

end Go.Proofs.YtcolebkklojccaaGreat.E

namespace Go.Proofs.YtcolebkklojccaaGreat.E
open Go
set_option maxHeartbeats 4000000
set_option maxRecDepth 100000
set_option linter.unusedSimpArgs false
set_option linter.unusedVariables false
attribute [local congr] c_wp c_ops c_op c_opS c_run c_runS c_dt c_seq c_blk c_loop c_S c_put c_bind c_mv c_pick c_nt c_ng c_bin c_binI c_binS c_beq c_B c_eqa c_hd c_cells c_blkK c_box c_vec c_mp c_nck c_mks c_appn c_mkm c_mput c_mlk c_mrm c_take c_ld c_ldF c_cellsK c_st c_fld c_fldv c_ix c_ixp c_ixv c_ixs c_sub c_subs c_len c_lens c_src c_dst c_ow c_app c_ext c_mm c_conv c_str c_isn c_fill c_rows c_boxo c_frz c_frzO c_frzA c_frzV c_spec c_specO c_opsP c_opP c_runP c_specP c_Z c_qretP c_fz c_fn c_gv c_cond c_res1 c_resL c_ret c_qret c_ite c_unr c_nx c_bk c_cut c_is
attribute [local irreducible] dwp

theorem get_end {l : List Ent} {q : Ent} (h : l.all (bq q) = true) : getS l q = (0, false) := by
  unfold getS
  rw [(tw_end h).2]
theorem get_mid {l pre : List Ent} {y : Ent} {rest : List Ent} {q : Ent} (he : l = pre ++ y :: rest) (h : pre.all (bq q) = true) (hy : bq q y = false) : getS l q = if precB q y = false then (y.ident, true) else (0, false) := by
  subst he
  unfold getS
  rw [(tw_mid hy h).2]
theorem set_end {l : List Ent} {q : Ent} (h : l.all (bq q) = true) : setS l q = l ++ [q] := by
  unfold setS
  rw [(tw_end h).1, (tw_end h).2]
theorem set_mid {l pre : List Ent} {y : Ent} {rest : List Ent} {q : Ent} (he : l = pre ++ y :: rest) (h : pre.all (bq q) = true) (hy : bq q y = false) : setS l q = pre ++ q :: (if precB q y = false then rest else y :: rest) := by
  subst he
  unfold setS
  rw [(tw_mid hy h).1, (tw_mid hy h).2]
theorem precB_id (k : Int) (u : List UInt8) (i j : Int) (y : Ent) : precB y ⟨k, u, i⟩ = precB y ⟨k, u, j⟩ ∧ precB ⟨k, u, i⟩ y = precB ⟨k, u, j⟩ y := ⟨rfl, rfl⟩
theorem bq_id (k : Int) (u : List UInt8) (i j : Int) : bq ⟨k, u, i⟩ = bq ⟨k, u, j⟩ := rfl
def ac28 : AC := (.seq (.ops [⟨(some 6), none, (.mv (.c (.int .i64 0)))⟩, ⟨(some 7), none, (.mv (.c (.bool false)))⟩]) (.seq (.seq (.ops [⟨(some 11), none, (.mv (.t 0))⟩, ⟨(some 12), none, (.mv (.t 1))⟩, ⟨(some 13), none, (.mv (.t 2))⟩, ⟨(some 14), none, (.call false 45 [(.t 11), (.t 12), (.t 13)])⟩, ⟨(some 10), none, (.mv (.t 14))⟩, ⟨(some 15), none, (.ext (.t 10) 0)⟩, ⟨(some 16), none, (.ext (.t 10) 1)⟩, ⟨(some 8), none, (.mv (.t 15))⟩, ⟨(some 9), none, (.mv (.t 16))⟩]) (.seq (.ops [⟨(some 17), none, (.mv (.t 9))⟩]) (.cond (.t 17) (.seq (.ops [⟨(some 18), none, (.mv (.t 0))⟩, ⟨(some 19), none, (.mv (.t 8))⟩, ⟨(some 20), none, (.ix 3 (.t 18) (.t 19))⟩, ⟨(some 21), none, (.fld 2 (.t 20))⟩, ⟨(some 22), none, (.ld false 1 (.t 21))⟩, ⟨(some 6), none, (.mv (.t 22))⟩, ⟨(some 7), none, (.mv (.c (.bool true)))⟩]) .ret) .skip))) (.seq (.ops [⟨(some 6), none, (.mv (.c (.int .i64 0)))⟩, ⟨(some 7), none, (.mv (.c (.bool false)))⟩]) .ret)))
theorem tr28 : Tryz.f28.body.bind (trCode Tryz.prog) = some (strip ac28) := by kernel_rfl
theorem spec28 (l : List Ent) (k : Int) (u : List UInt8) (hb : l.length ≤ 1000) : Spec Tryz.prog 28 [.fz (.sl 3 (l.map encEnt)), .fz (.int .i64 k), .fz (.str u)] (.fz (.tup [.int .i64 (getS l ⟨k, u, 0⟩).1, .bool (getS l ⟨k, u, 0⟩).2])) := by
  refine spec_at (n := 20) (ars := [(.t 6), (.t 7)]) (ac := ac28) Tryz.func28 (by kernel_rfl) (by kernel_rfl) tr28 (by kernel_rfl) ?_
  unfold ac28
  rcases find_cases l ⟨k, u, 0⟩ with ⟨ha, hf⟩ | ⟨pre, y, rest, he, ha, hy, hf⟩
  · have hg := get_end ha
    have hf1 : (findS l ⟨k, u, 0⟩).1 = l.length := by rw [hf]
    have hf2 : (findS l ⟨k, u, 0⟩).2 = false := by rw [hf]
    clear hf ha
    iterate 30 (all_goals (try (first
      | ((with_reducible refine of_kSpec ?_); refine call_fz (spec45 l k u hb) rfl ?_)
      | (with_reducible refine ite_in (fun _ => ?_) (fun _ => ?_))
      | (with_reducible refine ⟨fun _ => ?_, fun _ => ?_⟩)
      | (with_reducible refine And.intro ?_ ?_)
      | (with_reducible intro _)
      | (with_reducible exact is_in _)
      | (simp -implicitDefEqProofs only [SD, SF, SL, e_nf, reduceCtorEq, implies_true, ↓reduceIte, Nat.reduceEqDiff, Nat.reduceAdd, Nat.reduceMul, Nat.reduceSub, Nat.reduceLeDiff, Nat.reduceLT, Int.reduceLT, Int.reduceLE, Int.reduceEq, Int.reduceToNat, Int.reduceAdd, Int.reduceSub, Int.reduceNeg, Int.reduceBEq, Int.reduceBNe, Nat.reduceBEq, Int.cast_ofNat_Int, decide_true, decide_false, ne_eq, eq_self_iff_true, beq_eq_false_iff_ne, bne_iff_ne, List.replicate, *]))))
    all_goals (first | rfl | (left; simp [encEnt]; done) | omega | (simp only [maxLen, List.length_append, List.length_map, List.length_cons, List.length_nil] <;> omega) | (simp_all; done) | (simp_all; omega) | trace_state)
  · have hg := get_mid he ha hy
    have hf1 : (findS l ⟨k, u, 0⟩).1 = pre.length := by rw [hf]
    have hf2 : (findS l ⟨k, u, 0⟩).2 = !precB ⟨k, u, 0⟩ y := by rw [hf]
    have hx := cutD encEnt he
    have hlt := cut_lt he
    simp only [encEnt] at hx
    clear hf ha hy he
    by_cases hp : precB ⟨k, u, 0⟩ y = true
    case pos =>
      iterate 30 (all_goals (try (first
        | ((with_reducible refine of_kSpec ?_); refine call_fz (spec45 l k u hb) rfl ?_)
        | (with_reducible refine ite_in (fun _ => ?_) (fun _ => ?_))
        | (with_reducible refine ⟨fun _ => ?_, fun _ => ?_⟩)
        | (with_reducible refine And.intro ?_ ?_)
        | (with_reducible intro _)
        | (with_reducible exact is_in _)
        | (simp -implicitDefEqProofs only [SD, SF, SL, e_nf, reduceCtorEq, implies_true, ↓reduceIte, Nat.reduceEqDiff, Nat.reduceAdd, Nat.reduceMul, Nat.reduceSub, Nat.reduceLeDiff, Nat.reduceLT, Int.reduceLT, Int.reduceLE, Int.reduceEq, Int.reduceToNat, Int.reduceAdd, Int.reduceSub, Int.reduceNeg, Int.reduceBEq, Int.reduceBNe, Nat.reduceBEq, Int.cast_ofNat_Int, decide_true, decide_false, ne_eq, eq_self_iff_true, beq_eq_false_iff_ne, bne_iff_ne, List.replicate, encEnt, *]))))
      all_goals (first | rfl | (left; simp [encEnt]; done) | omega | (simp only [maxLen, List.length_append, List.length_map, List.length_cons, List.length_nil] <;> omega) | (simp_all; done) | (simp_all; omega) | trace_state)
    case neg =>
      replace hp : precB ⟨k, u, 0⟩ y = false := by simpa using hp
      iterate 30 (all_goals (try (first
        | ((with_reducible refine of_kSpec ?_); refine call_fz (spec45 l k u hb) rfl ?_)
        | (with_reducible refine ite_in (fun _ => ?_) (fun _ => ?_))
        | (with_reducible refine ⟨fun _ => ?_, fun _ => ?_⟩)
        | (with_reducible refine And.intro ?_ ?_)
        | (with_reducible intro _)
        | (with_reducible exact is_in _)
        | (simp -implicitDefEqProofs only [SD, SF, SL, e_nf, reduceCtorEq, implies_true, ↓reduceIte, Nat.reduceEqDiff, Nat.reduceAdd, Nat.reduceMul, Nat.reduceSub, Nat.reduceLeDiff, Nat.reduceLT, Int.reduceLT, Int.reduceLE, Int.reduceEq, Int.reduceToNat, Int.reduceAdd, Int.reduceSub, Int.reduceNeg, Int.reduceBEq, Int.reduceBNe, Nat.reduceBEq, Int.cast_ofNat_Int, decide_true, decide_false, ne_eq, eq_self_iff_true, beq_eq_false_iff_ne, bne_iff_ne, List.replicate, encEnt, *]))))
      all_goals (first | rfl | (left; simp [encEnt]; done) | omega | (simp only [maxLen, List.length_append, List.length_map, List.length_cons, List.length_nil] <;> omega) | (simp_all; done) | (simp_all; omega) | trace_state)

def ac15 : AC := (.seq (.ops [⟨(some 2), none, (.mv (.c .e0))⟩]) (.seq (.seq (.ops [⟨(some 3), none, (.mv (.t 0))⟩, ⟨(some 4), none, (.isn false (.t 3))⟩]) (.cond (.t 4) (.seq (.ops [⟨(some 2), none, (.mv (.c .e0))⟩]) .ret) .skip)) (.seq (.ops [⟨(some 5), none, (.buildSl 49 3 0 [(.int .i64 0), (.str []), (.int .i64 0)] [])⟩, ⟨(some 6), none, (.mv (.t 0))⟩, ⟨(some 7), none, (.app 49 3 32 (.t 5) (.t 6))⟩, ⟨(some 2), none, (.mv (.t 7))⟩]) .ret)))
theorem tr15 : Tryz.f15.body.bind (trCode Tryz.prog) = some (strip ac15) := by kernel_rfl
theorem spec15 (l : List Ent) (hb : l.length ≤ 1000) : Spec Tryz.prog 15 [.fz (.sl 3 (l.map encEnt))] (.fz (.sl 3 (l.map encEnt))) := by
  refine spec_at (n := 7) (ars := [(.t 2)]) (ac := ac15) Tryz.func15 (by kernel_rfl) (by kernel_rfl) tr15 (by kernel_rfl) ?_
  unfold ac15
  have h1 : l.length ≤ maxLen := by simp only [maxLen]; omega
  have h2 : l.length * 32 ≤ 140737488355328 := by omega
  iterate 30 (all_goals (try (first
    | (with_reducible refine ite_in (fun _ => ?_) (fun _ => ?_))
    | (with_reducible refine ⟨fun _ => ?_, fun _ => ?_⟩)
    | (with_reducible refine And.intro ?_ ?_)
    | (with_reducible intro _)
    | (with_reducible exact is_in _)
    | (simp -implicitDefEqProofs only [SD, SF, SL, e_nf, reduceCtorEq, implies_true, ↓reduceIte, Nat.reduceEqDiff, Nat.reduceAdd, Nat.reduceMul, Nat.reduceSub, Nat.reduceLeDiff, Nat.reduceLT, Int.reduceLT, Int.reduceLE, Int.reduceEq, Int.reduceToNat, Int.reduceAdd, Int.reduceSub, Int.reduceNeg, Int.reduceBEq, Int.reduceBNe, Nat.reduceBEq, Int.cast_ofNat_Int, decide_true, decide_false, ne_eq, eq_self_iff_true, beq_eq_false_iff_ne, bne_iff_ne, List.replicate, *]))))
  all_goals (simp_all)
def ac42 : AC := (.seq (.ops [⟨(some 8), none, (.mv (.c .e0))⟩]) (.seq (.ops [⟨(some 13), none, (.mv (.t 0))⟩, ⟨(some 14), none, (.mv (.t 1))⟩, ⟨(some 15), none, (.mv (.t 2))⟩, ⟨(some 16), none, (.call false 45 [(.t 13), (.t 14), (.t 15)])⟩, ⟨(some 12), none, (.mv (.t 16))⟩, ⟨(some 17), none, (.ext (.t 12) 0)⟩, ⟨(some 18), none, (.ext (.t 12) 1)⟩, ⟨(some 9), none, (.mv (.t 17))⟩, ⟨(some 10), none, (.mv (.t 18))⟩]) (.seq (.ops [⟨(some 19), none, (.buildSl 49 3 0 [(.int .i64 0), (.str []), (.int .i64 0)] [])⟩, ⟨(some 20), none, (.mv (.t 0))⟩, ⟨(some 21), none, (.mv (.t 9))⟩, ⟨(some 22), none, (.sub 3 (.t 20) none (some (.t 21)) none)⟩, ⟨(some 23), none, (.app 49 3 32 (.t 19) (.t 22))⟩, ⟨(some 11), none, (.mv (.t 23))⟩]) (.seq (.ops [⟨(some 24), none, (.mv (.t 11))⟩, ⟨(some 25), none, (.mv (.t 1))⟩, ⟨(some 26), none, (.mv (.t 2))⟩, ⟨(some 27), none, (.mv (.t 3))⟩, ⟨(some 28), none, (.build [(.int .i64 0), (.str []), (.int .i64 0)] [(0, (1, (.t 25))), (1, (1, (.t 26))), (2, (1, (.t 27)))])⟩, ⟨(some 29), none, (.buildSl 49 3 1 [(.int .i64 0), (.str []), (.int .i64 0)] [(0, (.t 28))])⟩, ⟨(some 30), none, (.app 49 3 32 (.t 24) (.t 29))⟩, ⟨(some 11), none, (.mv (.t 30))⟩]) (.seq (.seq (.ops [⟨(some 31), none, (.mv (.t 10))⟩]) (.cond (.t 31) (.ops [⟨(some 32), none, (.mv (.t 9))⟩, ⟨(some 33), none, (.bin .add (.t 32) (.c (.int .i64 1)))⟩, ⟨(some 9), none, (.mv (.t 33))⟩]) .skip)) (.seq (.ops [⟨(some 34), none, (.mv (.t 11))⟩, ⟨(some 35), none, (.mv (.t 0))⟩, ⟨(some 36), none, (.mv (.t 9))⟩, ⟨(some 37), none, (.sub 3 (.t 35) (some (.t 36)) none none)⟩, ⟨(some 38), none, (.app 49 3 32 (.t 34) (.t 37))⟩, ⟨(some 8), none, (.mv (.t 38))⟩]) .ret))))))
theorem tr42 : Tryz.f42.body.bind (trCode Tryz.prog) = some (strip ac42) := by kernel_rfl
theorem spec42 (l : List Ent) (k : Int) (u : List UInt8) (i : Int) (hb : l.length ≤ 1000) : Spec Tryz.prog 42 [.fz (.sl 3 (l.map encEnt)), .fz (.int .i64 k), .fz (.str u), .fz (.int .i64 i)] (.fz (.sl 3 ((setS l ⟨k, u, i⟩).map encEnt))) := by
  refine spec_at (n := 35) (ars := [(.t 8)]) (ac := ac42) Tryz.func42 (by kernel_rfl) (by kernel_rfl) tr42 (by kernel_rfl) ?_
  unfold ac42
  rcases find_cases l ⟨k, u, 0⟩ with ⟨ha, hf⟩ | ⟨pre, y, rest, he, ha, hy, hf⟩
  · have hg := set_end (q := ⟨k, u, i⟩) ha
    have hf1 : (findS l ⟨k, u, 0⟩).1 = l.length := by rw [hf]
    have hf2 : (findS l ⟨k, u, 0⟩).2 = false := by rw [hf]
    have htk : (l.map encEnt).take l.length = l.map encEnt := List.take_of_length_le (by simp)
    have hdr : (l.map encEnt).drop l.length = [] := List.drop_eq_nil_of_le (by simp)
    clear hf ha
    iterate 40 (all_goals (try (first
      | ((with_reducible refine of_kSpec ?_); refine call_fz (spec45 l k u hb) rfl ?_)
      | (with_reducible refine ite_in (fun _ => ?_) (fun _ => ?_))
      | (with_reducible refine ⟨fun _ => ?_, fun _ => ?_⟩)
      | (with_reducible refine And.intro ?_ ?_)
      | (with_reducible intro _)
      | (with_reducible exact is_in _)
      | (simp -implicitDefEqProofs only [SD, SF, SL, e_nf, reduceCtorEq, implies_true, ↓reduceIte, Nat.reduceEqDiff, Nat.reduceAdd, Nat.reduceMul, Nat.reduceSub, Nat.reduceLeDiff, Nat.reduceLT, Int.reduceLT, Int.reduceLE, Int.reduceEq, Int.reduceToNat, Int.reduceAdd, Int.reduceSub, Int.reduceNeg, Int.reduceBEq, Int.reduceBNe, Nat.reduceBEq, Int.cast_ofNat_Int, decide_true, decide_false, ne_eq, eq_self_iff_true, beq_eq_false_iff_ne, bne_iff_ne, List.replicate, encEnt, List.length_map, *]))))
    all_goals (first | rfl | (left; simp [encEnt]; done) | omega | (simp only [maxLen, List.length_append, List.length_map, List.length_cons, List.length_nil] <;> omega) | (simp_all; done) | (simp_all; omega) | trace_state)
  · have hg := set_mid (q := ⟨k, u, i⟩) he ha hy
    have hf1 : (findS l ⟨k, u, 0⟩).1 = pre.length := by rw [hf]
    have hf2 : (findS l ⟨k, u, 0⟩).2 = !precB ⟨k, u, 0⟩ y := by rw [hf]
    have hll : l.length = pre.length + (rest.length + 1) := by rw [he]; simp
    have htk : (l.map encEnt).take pre.length = pre.map encEnt := by rw [he]; simp
    have hdr : (l.map encEnt).drop pre.length = encEnt y :: rest.map encEnt := by rw [he]; simp
    have hdr1 : (l.map encEnt).drop (pre.length + 1) = rest.map encEnt := by rw [he, List.map_append, List.map_cons, ← List.drop_drop, List.drop_left' (by simp)]; rfl
    have htl : (l.map encEnt).take l.length = l.map encEnt := List.take_of_length_le (by simp)
    have hwi : IntKind.i64.wrap ((pre.length : Int) + 1) = ((pre.length + 1 : Nat) : Int) := by rw [wrap_in (by omega) (by omega)]; rfl
    have hle1 : pre.length ≤ l.length := by omega
    have hle2 : pre.length + 1 ≤ l.length := by omega
    replace hll := Hd.mk hll
    simp only [encEnt] at hdr
    clear hf ha hy he
    by_cases hp : precB ⟨k, u, 0⟩ y = true
    case pos =>
      have hp2 : precB ⟨k, u, i⟩ y = true := hp
      rw [if_neg (by simp [hp2])] at hg
      iterate 40 (all_goals (try (first
        | ((with_reducible refine of_kSpec ?_); refine call_fz (spec45 l k u hb) rfl ?_)
        | (with_reducible refine ite_in (fun _ => ?_) (fun _ => ?_))
        | (with_reducible refine ⟨fun _ => ?_, fun _ => ?_⟩)
        | (with_reducible refine And.intro ?_ ?_)
        | (with_reducible intro _)
        | (with_reducible exact is_in _)
        | (simp -implicitDefEqProofs only [SD, SF, SL, e_nf, reduceCtorEq, implies_true, ↓reduceIte, Nat.reduceEqDiff, Nat.reduceAdd, Nat.reduceMul, Nat.reduceSub, Nat.reduceLeDiff, Nat.reduceLT, Int.reduceLT, Int.reduceLE, Int.reduceEq, Int.reduceToNat, Int.reduceAdd, Int.reduceSub, Int.reduceNeg, Int.reduceBEq, Int.reduceBNe, Nat.reduceBEq, Int.cast_ofNat_Int, decide_true, decide_false, ne_eq, eq_self_iff_true, beq_eq_false_iff_ne, bne_iff_ne, List.replicate, encEnt, List.length_map, *]))))
      all_goals (first | (have := hll.out; simp only [maxLen, List.length_append, List.length_map, List.length_cons, List.length_nil] <;> omega) | first | rfl | (left; simp [encEnt]; done) | omega | (simp only [maxLen, List.length_append, List.length_map, List.length_cons, List.length_nil] <;> omega) | (simp_all; done) | (simp_all; omega) | trace_state)
    case neg =>
      replace hp : precB ⟨k, u, 0⟩ y = false := by simpa using hp
      have hp2 : precB ⟨k, u, i⟩ y = false := hp
      rw [if_pos hp2] at hg
      iterate 40 (all_goals (try (first
        | ((with_reducible refine of_kSpec ?_); refine call_fz (spec45 l k u hb) rfl ?_)
        | (with_reducible refine ite_in (fun _ => ?_) (fun _ => ?_))
        | (with_reducible refine ⟨fun _ => ?_, fun _ => ?_⟩)
        | (with_reducible refine And.intro ?_ ?_)
        | (with_reducible intro _)
        | (with_reducible exact is_in _)
        | (simp -implicitDefEqProofs only [SD, SF, SL, e_nf, reduceCtorEq, implies_true, ↓reduceIte, Nat.reduceEqDiff, Nat.reduceAdd, Nat.reduceMul, Nat.reduceSub, Nat.reduceLeDiff, Nat.reduceLT, Int.reduceLT, Int.reduceLE, Int.reduceEq, Int.reduceToNat, Int.reduceAdd, Int.reduceSub, Int.reduceNeg, Int.reduceBEq, Int.reduceBNe, Nat.reduceBEq, Int.cast_ofNat_Int, decide_true, decide_false, ne_eq, eq_self_iff_true, beq_eq_false_iff_ne, bne_iff_ne, List.replicate, encEnt, List.length_map, *]))))
      all_goals (first | (have := hll.out; simp only [maxLen, List.length_append, List.length_map, List.length_cons, List.length_nil] <;> omega) | first | rfl | (left; simp [encEnt]; done) | omega | (simp only [maxLen, List.length_append, List.length_map, List.length_cons, List.length_nil] <;> omega) | (simp_all; done) | (simp_all; omega) | trace_state)


end Go.Proofs.YtcolebkklojccaaGreat.E
