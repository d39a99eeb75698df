/-
  MdB: walks of functions of the program at data level.
-/
import Derived.Test.YtfcjmblhcakhaaaProg
import Derived.Test.YtfcjmblhcakhaaaEngZ
import Derived.Test.YtfcjmblhcakhaaaMdA
import Derived.KernelRfl
set_option linter.unusedVariables false
set_option linter.unusedSimpArgs false
namespace Go.Proofs.Ytfcjmblhcakhaaa.E
open Go
set_option maxHeartbeats 4000000
set_option maxRecDepth 100000
set_option linter.unusedSimpArgs false
set_option linter.unusedVariables false
attribute [local congr] c_wp c_ops c_op c_opS c_run c_runS c_dt c_seq c_blk c_loop c_S c_put c_bind c_mv c_pick c_nt c_ng c_bin c_binI c_binS c_beq c_B c_eqa c_hd c_cells c_blkK c_box c_vec c_mp c_mkm c_mput c_mlk c_mrm c_take c_ld c_ldF c_cellsK c_st c_fld c_fldv c_ix c_ixp c_ixv c_ixs c_sub c_subs c_len c_lens c_src c_dst c_ow c_app c_ext c_mm c_conv c_str c_isn c_fill c_rows c_boxo c_frz c_frzO c_frzA c_frzV c_spec c_specO c_opsP c_opP c_runP c_specP c_Z c_qretP c_fz c_fn c_gv c_cond c_res1 c_resL c_ret c_qret c_ite c_unr c_nx c_bk c_cut c_is
attribute [local irreducible] dwp

structure Md where
  server : List UInt8
  name : List UInt8
  size : Int
  time : Int
  st : Int
def encMd (m : Md) : List DV := [.str m.server, .str m.name, .int .i64 m.size, .int .i64 m.time, .int .i64 m.st]
instance : DecidableEq Md := fun a b => by
  cases a; cases b; simp only [Md.mk.injEq]; infer_instance
def namedB (a b : List UInt8) : Bool := serverB a && decide (1 ≤ b.length ∧ b.length ≤ 32)
def validR (m : Md) : Int := if namedB m.server m.name = false then 3 else if m.size < 0 ∨ 1000000000000 < m.size ∨ m.time < 0 ∨ 1000000000 < m.time ∨ m.st < 0 ∨ 3 < m.st then 2 else 0
def befB (a b c d : List UInt8) : Bool := Op.bytesLess a c || (a == c) && Op.bytesLess b d
def okPrev (p : Option Md) (m : Md) : Bool := match p with
  | none => true
  | some p => befB p.server p.name m.server m.name
def chkF : Option Md → List Md → Int
  | _, [] => 0
  | p, m :: r => if validR m ≠ 0 then validR m else if okPrev p m = false then 8 else chkF (some m) r
def chkL (l : List Md) : Int := chkF none l
def placeL : List Md → List UInt8 → List UInt8 → Nat → Int
  | [], _, _, _ => -1
  | m :: r, a, b, i => if m.server = a ∧ m.name = b then i else placeL r a b (i + 1)
def bm (m y : Md) : Bool := befB y.server y.name m.server m.name
def insL (l : List Md) (m : Md) : List Md := l.takeWhile (bm m) ++ m :: l.dropWhile (bm m)
theorem tw_end {p : Md → Bool} : ∀ {l : List Md}, l.all p = true → l.takeWhile p = l ∧ l.dropWhile p = []
  | [], _ => ⟨rfl, rfl⟩
  | x :: l, h => by
    simp only [List.all_cons, Bool.and_eq_true] at h
    obtain ⟨h1, h2⟩ := tw_end h.2
    rw [List.takeWhile_cons, List.dropWhile_cons, h.1, h1, h2]
    exact ⟨rfl, rfl⟩
theorem tw_mid {p : Md → Bool} {x : Md} {rest : List Md} (hx : p x = false) : ∀ {l : List Md}, l.all p = true → (l ++ x :: rest).takeWhile p = l ∧ (l ++ x :: rest).dropWhile p = x :: rest
  | [], _ => by rw [List.nil_append, List.takeWhile_cons, List.dropWhile_cons, hx]; exact ⟨rfl, rfl⟩
  | y :: l, h => by
    simp only [List.all_cons, Bool.and_eq_true] at h
    obtain ⟨h1, h2⟩ := tw_mid hx h.2 (rest := rest)
    rw [List.cons_append, List.takeWhile_cons, List.dropWhile_cons, h.1, h1, h2]
    exact ⟨rfl, rfl⟩
theorem ins_at_end {l : List Md} {m : Md} (h : l.all (bm m) = true) : (insL l m).map encMd = (l.map encMd).take l.length ++ encMd m :: (l.map encMd).drop l.length := by
  rw [insL, (tw_end h).1, (tw_end h).2, List.map_append, List.take_of_length_le (by simp), List.drop_eq_nil_of_le (by simp)]
  rfl
theorem ins_at {l pre : List Md} {x : Md} {rest : List Md} {m : Md} (he : l = pre ++ x :: rest) (h : pre.all (bm m) = true) (hx : bm m x = false) : (insL l m).map encMd = (l.map encMd).take pre.length ++ encMd m :: (l.map encMd).drop pre.length := by
  subst he
  rw [insL, (tw_mid hx h).1, (tw_mid hx h).2]
  simp only [List.map_append, List.map_cons]
  rw [List.take_left' (by simp), List.drop_left' (by simp)]
theorem prev_cases {T : Type} {enc : T → List DV} {l pre : List T} {x : T} {rest : List T} (he : l = pre ++ x :: rest) (hl : l.length ≤ maxLen) : (pre.getLast? = none ∧ ¬ ((0 : Int) < (pre.length : Int))) ∨
    ∃ p, pre.getLast? = some p ∧ (0 : Int) < (pre.length : Int) ∧ (l.map enc).getD (pre.length - 1) [] = enc p ∧ ((pre.length - 1 : Nat) : Int) < (l.length : Int) ∧ IntKind.i64.wrap ((pre.length : Int) - 1) = ((pre.length - 1 : Nat) : Int) := by
  rcases List.eq_nil_or_concat pre with rfl | ⟨pre', p, rfl⟩
  · exact .inl ⟨rfl, by simp⟩
  · refine .inr ⟨p, by simp, by simp <;> omega, ?_, ?_, ?_⟩
    · subst he
      simp [List.getD]
    · have h3 := congrArg List.length he
      simp at h3 ⊢
      omega
    · have h2 : l.length ≤ 9223372036854775807 := by simpa [maxLen] using hl
      have h3 := congrArg List.length he
      simp at h3
      simp only [List.length_append, List.length_cons, List.length_nil, List.concat_eq_append] at h3 ⊢
      rw [wrap_in (by omega) (by omega)]
      omega
def ac36 : AC := (.seq (.ops [⟨(some 4), none, (.mv (.c (.bool false)))⟩]) (.seq (.ops [⟨(some 5), none, (.mv (.t 0))⟩, ⟨(some 6), none, (.call false 42 [(.t 5)])⟩, ⟨(some 7), none, (.bin .eql (.t 6) (.c (.int .i64 0)))⟩, ⟨(some 8), none, (.mv (.t 7))⟩, ⟨(some 9), (some (8, true)), (.mv (.t 1))⟩, ⟨(some 10), (some (8, true)), (.lens (.t 9))⟩, ⟨(some 11), (some (8, true)), (.bin .geq (.t 10) (.c (.int .i64 1)))⟩, ⟨(some 12), none, (.pick (.t 8) (.t 11) (.c (.bool false)))⟩, ⟨(some 13), none, (.mv (.t 12))⟩, ⟨(some 14), (some (13, true)), (.mv (.t 1))⟩, ⟨(some 15), (some (13, true)), (.lens (.t 14))⟩, ⟨(some 16), (some (13, true)), (.bin .leq (.t 15) (.c (.int .i64 32)))⟩, ⟨(some 17), none, (.pick (.t 13) (.t 16) (.c (.bool false)))⟩, ⟨(some 4), none, (.mv (.t 17))⟩]) .ret))
theorem tr36 : Try.f36.body.bind (trCode Try.prog) = some (strip ac36) := by kernel_rfl
theorem spec36 (a b : List UInt8) : Spec Try.prog 36 [.fz (.str a), .fz (.str b)] (.fz (.bool (namedB a b))) := by
  refine spec_at (n := 16) (ars := [(.t 4)]) (ac := ac36) Try.func36 (by kernel_rfl) (by kernel_rfl) tr36 (by kernel_rfl) ?_
  unfold ac36
  iterate 30 (all_goals (try (first
    | ((with_reducible refine of_kSpec ?_); refine call_fz (spec42 _) rfl ?_)
    | (with_reducible refine ite_in (fun _ => ?_) (fun _ => ?_))
    | (with_reducible refine ⟨fun _ => ?_, fun _ => ?_⟩)
    | (with_reducible refine And.intro ?_ ?_)
    | (with_reducible intro _)
    | (with_reducible exact is_in _)
    | (simp -implicitDefEqProofs only [SD, SF, SL, e_nf, reduceCtorEq, implies_true, ↓reduceIte, Nat.reduceEqDiff, Nat.reduceAdd, Nat.reduceMul, Nat.reduceSub, Nat.reduceLeDiff, Nat.reduceLT, Int.reduceLT, Int.reduceLE, Int.reduceEq, Int.reduceToNat, Int.reduceAdd, Int.reduceSub, Int.reduceNeg, Int.reduceBEq, Int.reduceBNe, Nat.reduceBEq, Int.cast_ofNat_Int, decide_true, decide_false, ne_eq, eq_self_iff_true, beq_eq_false_iff_ne, bne_iff_ne, List.replicate, *]))))
  all_goals (first | (simp_all [namedB]; done) | (simp_all [namedB]; omega) | grind [namedB])
def ac37 : AC := (.seq (.ops [⟨(some 4), none, (.mv (.c (.int .i64 0)))⟩]) (.seq (.seq (.ops [⟨(some 5), none, (.mv (.t 0))⟩, ⟨(some 6), none, (.call false 43 [(.t 5)])⟩, ⟨(some 7), none, (.bin .neq (.t 6) (.c (.int .i64 0)))⟩, ⟨(some 8), none, (.mv (.t 7))⟩, ⟨(some 9), (some (8, false)), (.mv (.t 1))⟩, ⟨(some 10), (some (8, false)), (.lens (.t 9))⟩, ⟨(some 11), (some (8, false)), (.bin .lss (.t 10) (.c (.int .i64 1)))⟩, ⟨(some 12), none, (.pick (.t 8) (.c (.bool true)) (.t 11))⟩, ⟨(some 13), none, (.mv (.t 12))⟩, ⟨(some 14), (some (13, false)), (.mv (.t 1))⟩, ⟨(some 15), (some (13, false)), (.lens (.t 14))⟩, ⟨(some 16), (some (13, false)), (.bin .gtr (.t 15) (.c (.int .i64 32)))⟩, ⟨(some 17), none, (.pick (.t 13) (.c (.bool true)) (.t 16))⟩]) (.cond (.t 17) (.seq (.ops [⟨(some 4), none, (.mv (.c (.int .i64 3)))⟩]) .ret) .skip)) (.seq (.ops [⟨(some 4), none, (.mv (.c (.int .i64 0)))⟩]) .ret)))
theorem tr37 : Try.f37.body.bind (trCode Try.prog) = some (strip ac37) := by kernel_rfl
theorem spec37 (a b : List UInt8) : Spec Try.prog 37 [.fz (.str a), .fz (.str b)] (.fz (.int .i64 (if namedB a b = true then 0 else 3))) := by
  refine spec_at (n := 16) (ars := [(.t 4)]) (ac := ac37) Try.func37 (by kernel_rfl) (by kernel_rfl) tr37 (by kernel_rfl) ?_
  unfold ac37
  iterate 30 (all_goals (try (first
    | ((with_reducible refine of_kSpec ?_); refine call_fz (spec43 _) rfl ?_)
    | (with_reducible refine ite_in (fun _ => ?_) (fun _ => ?_))
    | (with_reducible refine ⟨fun _ => ?_, fun _ => ?_⟩)
    | (with_reducible refine And.intro ?_ ?_)
    | (with_reducible intro _)
    | (with_reducible exact is_in _)
    | (simp -implicitDefEqProofs only [SD, SF, SL, e_nf, reduceCtorEq, implies_true, ↓reduceIte, Nat.reduceEqDiff, Nat.reduceAdd, Nat.reduceMul, Nat.reduceSub, Nat.reduceLeDiff, Nat.reduceLT, Int.reduceLT, Int.reduceLE, Int.reduceEq, Int.reduceToNat, Int.reduceAdd, Int.reduceSub, Int.reduceNeg, Int.reduceBEq, Int.reduceBNe, Nat.reduceBEq, Int.cast_ofNat_Int, decide_true, decide_false, ne_eq, eq_self_iff_true, beq_eq_false_iff_ne, bne_iff_ne, List.replicate, *]))))
  all_goals (first | (simp_all [namedB]; done) | (simp_all [namedB]; omega) | grind [namedB])
def ac29 : AC := (.seq (.ops [⟨(some 1), none, (.box (.t 0))⟩, ⟨(some 2), none, (.mv (.c (.int .i64 0)))⟩]) (.seq (.seq (.ops [⟨(some 3), none, (.fld 0 (.t 1))⟩, ⟨(some 4), none, (.ld false 1 (.t 3))⟩, ⟨(some 5), none, (.fld 1 (.t 1))⟩, ⟨(some 6), none, (.ld false 1 (.t 5))⟩, ⟨(some 7), none, (.call false 36 [(.t 4), (.t 6)])⟩, ⟨(some 8), none, (.nt (.t 7))⟩]) (.cond (.t 8) (.seq (.ops [⟨(some 2), none, (.mv (.c (.int .i64 3)))⟩]) .ret) .skip)) (.seq (.seq (.ops [⟨(some 9), none, (.fld 2 (.t 1))⟩, ⟨(some 10), none, (.ld false 1 (.t 9))⟩, ⟨(some 11), none, (.bin .lss (.t 10) (.c (.int .i64 0)))⟩, ⟨(some 12), none, (.mv (.t 11))⟩, ⟨(some 13), (some (12, false)), (.fld 2 (.t 1))⟩, ⟨(some 14), (some (12, false)), (.ld false 1 (.t 13))⟩, ⟨(some 15), (some (12, false)), (.bin .gtr (.t 14) (.c (.int .i64 1000000000000)))⟩, ⟨(some 16), none, (.pick (.t 12) (.c (.bool true)) (.t 15))⟩, ⟨(some 17), none, (.mv (.t 16))⟩, ⟨(some 18), (some (17, false)), (.fld 3 (.t 1))⟩, ⟨(some 19), (some (17, false)), (.ld false 1 (.t 18))⟩, ⟨(some 20), (some (17, false)), (.bin .lss (.t 19) (.c (.int .i64 0)))⟩, ⟨(some 21), none, (.pick (.t 17) (.c (.bool true)) (.t 20))⟩, ⟨(some 22), none, (.mv (.t 21))⟩, ⟨(some 23), (some (22, false)), (.fld 3 (.t 1))⟩, ⟨(some 24), (some (22, false)), (.ld false 1 (.t 23))⟩, ⟨(some 25), (some (22, false)), (.bin .gtr (.t 24) (.c (.int .i64 1000000000)))⟩, ⟨(some 26), none, (.pick (.t 22) (.c (.bool true)) (.t 25))⟩, ⟨(some 27), none, (.mv (.t 26))⟩, ⟨(some 28), (some (27, false)), (.fld 4 (.t 1))⟩, ⟨(some 29), (some (27, false)), (.ld false 1 (.t 28))⟩, ⟨(some 30), (some (27, false)), (.bin .lss (.t 29) (.c (.int .i64 0)))⟩, ⟨(some 31), none, (.pick (.t 27) (.c (.bool true)) (.t 30))⟩, ⟨(some 32), none, (.mv (.t 31))⟩, ⟨(some 33), (some (32, false)), (.fld 4 (.t 1))⟩, ⟨(some 34), (some (32, false)), (.ld false 1 (.t 33))⟩, ⟨(some 35), (some (32, false)), (.bin .gtr (.t 34) (.c (.int .i64 3)))⟩, ⟨(some 36), none, (.pick (.t 32) (.c (.bool true)) (.t 35))⟩]) (.cond (.t 36) (.seq (.ops [⟨(some 2), none, (.mv (.c (.int .i64 2)))⟩]) .ret) .skip)) (.seq (.ops [⟨(some 2), none, (.mv (.c (.int .i64 0)))⟩]) .ret))))
theorem tr29 : Try.f29.body.bind (trCode Try.prog) = some (strip ac29) := by kernel_rfl
theorem spec29 (m : Md) : Spec Try.prog 29 [.fz (.agg (encMd m))] (.fz (.int .i64 (validR m))) := by
  refine spec_at (n := 36) (ars := [(.t 2)]) (ac := ac29) Try.func29 (by kernel_rfl) (by kernel_rfl) tr29 (by kernel_rfl) ?_
  unfold ac29
  iterate 30 (all_goals (try (first
    | ((with_reducible refine of_kSpec ?_); refine call_fz (spec36 _ _) rfl ?_)
    | (with_reducible refine ite_in (fun _ => ?_) (fun _ => ?_))
    | (with_reducible refine ⟨fun _ => ?_, fun _ => ?_⟩)
    | (with_reducible refine And.intro ?_ ?_)
    | (with_reducible intro _)
    | (with_reducible exact is_in _)
    | (simp -implicitDefEqProofs only [SD, SF, SL, e_nf, reduceCtorEq, implies_true, ↓reduceIte, Nat.reduceEqDiff, Nat.reduceAdd, Nat.reduceMul, Nat.reduceSub, Nat.reduceLeDiff, Nat.reduceLT, Int.reduceLT, Int.reduceLE, Int.reduceEq, Int.reduceToNat, Int.reduceAdd, Int.reduceSub, Int.reduceNeg, Int.reduceBEq, Int.reduceBNe, Nat.reduceBEq, Int.cast_ofNat_Int, decide_true, decide_false, ne_eq, eq_self_iff_true, beq_eq_false_iff_ne, bne_iff_ne, List.replicate, encMd, *]))))
  all_goals (first | (simp_all [validR]; done) | (simp_all [validR]; omega) | grind [validR])
def ac31 : AC := (.seq (.ops [⟨(some 1), none, (.box (.t 0))⟩, ⟨(some 2), none, (.mv (.c (.int .i64 0)))⟩]) (.seq (.seq (.ops [⟨(some 3), none, (.fld 0 (.t 1))⟩, ⟨(some 4), none, (.ld false 1 (.t 3))⟩, ⟨(some 5), none, (.fld 1 (.t 1))⟩, ⟨(some 6), none, (.ld false 1 (.t 5))⟩, ⟨(some 7), none, (.call false 37 [(.t 4), (.t 6)])⟩, ⟨(some 8), none, (.bin .neq (.t 7) (.c (.int .i64 0)))⟩]) (.cond (.t 8) (.seq (.ops [⟨(some 2), none, (.mv (.c (.int .i64 3)))⟩]) .ret) .skip)) (.seq (.seq (.ops [⟨(some 9), none, (.fld 2 (.t 1))⟩, ⟨(some 10), none, (.ld false 1 (.t 9))⟩, ⟨(some 11), none, (.bin .lss (.t 10) (.c (.int .i64 0)))⟩, ⟨(some 12), none, (.mv (.t 11))⟩, ⟨(some 13), (some (12, false)), (.fld 2 (.t 1))⟩, ⟨(some 14), (some (12, false)), (.ld false 1 (.t 13))⟩, ⟨(some 15), (some (12, false)), (.bin .gtr (.t 14) (.c (.int .i64 1000000000000)))⟩, ⟨(some 16), none, (.pick (.t 12) (.c (.bool true)) (.t 15))⟩, ⟨(some 17), none, (.mv (.t 16))⟩, ⟨(some 18), (some (17, false)), (.fld 3 (.t 1))⟩, ⟨(some 19), (some (17, false)), (.ld false 1 (.t 18))⟩, ⟨(some 20), (some (17, false)), (.bin .lss (.t 19) (.c (.int .i64 0)))⟩, ⟨(some 21), none, (.pick (.t 17) (.c (.bool true)) (.t 20))⟩, ⟨(some 22), none, (.mv (.t 21))⟩, ⟨(some 23), (some (22, false)), (.fld 3 (.t 1))⟩, ⟨(some 24), (some (22, false)), (.ld false 1 (.t 23))⟩, ⟨(some 25), (some (22, false)), (.bin .gtr (.t 24) (.c (.int .i64 1000000000)))⟩, ⟨(some 26), none, (.pick (.t 22) (.c (.bool true)) (.t 25))⟩, ⟨(some 27), none, (.mv (.t 26))⟩, ⟨(some 28), (some (27, false)), (.fld 4 (.t 1))⟩, ⟨(some 29), (some (27, false)), (.ld false 1 (.t 28))⟩, ⟨(some 30), (some (27, false)), (.bin .lss (.t 29) (.c (.int .i64 0)))⟩, ⟨(some 31), none, (.pick (.t 27) (.c (.bool true)) (.t 30))⟩, ⟨(some 32), none, (.mv (.t 31))⟩, ⟨(some 33), (some (32, false)), (.fld 4 (.t 1))⟩, ⟨(some 34), (some (32, false)), (.ld false 1 (.t 33))⟩, ⟨(some 35), (some (32, false)), (.bin .gtr (.t 34) (.c (.int .i64 3)))⟩, ⟨(some 36), none, (.pick (.t 32) (.c (.bool true)) (.t 35))⟩]) (.cond (.t 36) (.seq (.ops [⟨(some 2), none, (.mv (.c (.int .i64 2)))⟩]) .ret) .skip)) (.seq (.ops [⟨(some 2), none, (.mv (.c (.int .i64 0)))⟩]) .ret))))
theorem tr31 : Try.f31.body.bind (trCode Try.prog) = some (strip ac31) := by kernel_rfl
theorem spec31 (m : Md) : Spec Try.prog 31 [.fz (.agg (encMd m))] (.fz (.int .i64 (validR m))) := by
  refine spec_at (n := 36) (ars := [(.t 2)]) (ac := ac31) Try.func31 (by kernel_rfl) (by kernel_rfl) tr31 (by kernel_rfl) ?_
  unfold ac31
  iterate 30 (all_goals (try (first
    | ((with_reducible refine of_kSpec ?_); refine call_fz (spec37 _ _) rfl ?_)
    | (with_reducible refine ite_in (fun _ => ?_) (fun _ => ?_))
    | (with_reducible refine ⟨fun _ => ?_, fun _ => ?_⟩)
    | (with_reducible refine And.intro ?_ ?_)
    | (with_reducible intro _)
    | (with_reducible exact is_in _)
    | (simp -implicitDefEqProofs only [SD, SF, SL, e_nf, reduceCtorEq, implies_true, ↓reduceIte, Nat.reduceEqDiff, Nat.reduceAdd, Nat.reduceMul, Nat.reduceSub, Nat.reduceLeDiff, Nat.reduceLT, Int.reduceLT, Int.reduceLE, Int.reduceEq, Int.reduceToNat, Int.reduceAdd, Int.reduceSub, Int.reduceNeg, Int.reduceBEq, Int.reduceBNe, Nat.reduceBEq, Int.cast_ofNat_Int, decide_true, decide_false, ne_eq, eq_self_iff_true, beq_eq_false_iff_ne, bne_iff_ne, List.replicate, encMd, *]))))
  all_goals (first | (simp_all [validR]; done) | (simp_all [validR]; omega) | grind [validR])
def ac30 : AC := (.seq (.ops [⟨(some 2), none, (.box (.t 0))⟩, ⟨(some 3), none, (.box (.t 1))⟩, ⟨(some 4), none, (.mv (.c (.bool false)))⟩]) (.seq (.ops [⟨(some 5), none, (.fld 0 (.t 2))⟩, ⟨(some 6), none, (.ld false 1 (.t 5))⟩, ⟨(some 7), none, (.fld 0 (.t 3))⟩, ⟨(some 8), none, (.ld false 1 (.t 7))⟩, ⟨(some 9), none, (.bin .lss (.t 6) (.t 8))⟩, ⟨(some 10), none, (.mv (.t 9))⟩, ⟨(some 11), (some (10, false)), (.fld 0 (.t 2))⟩, ⟨(some 12), (some (10, false)), (.ld false 1 (.t 11))⟩, ⟨(some 13), (some (10, false)), (.fld 0 (.t 3))⟩, ⟨(some 14), (some (10, false)), (.ld false 1 (.t 13))⟩, ⟨(some 15), (some (10, false)), (.bin .eql (.t 12) (.t 14))⟩, ⟨(some 16), (some (10, false)), (.mv (.t 15))⟩, ⟨(some 17), (some (16, true)), (.fld 1 (.t 2))⟩, ⟨(some 18), (some (16, true)), (.ld false 1 (.t 17))⟩, ⟨(some 19), (some (16, true)), (.fld 1 (.t 3))⟩, ⟨(some 20), (some (16, true)), (.ld false 1 (.t 19))⟩, ⟨(some 21), (some (16, true)), (.bin .lss (.t 18) (.t 20))⟩, ⟨(some 22), (some (10, false)), (.pick (.t 16) (.t 21) (.c (.bool false)))⟩, ⟨(some 23), none, (.pick (.t 10) (.c (.bool true)) (.t 22))⟩, ⟨(some 4), none, (.mv (.t 23))⟩]) .ret))
theorem tr30 : Try.f30.body.bind (trCode Try.prog) = some (strip ac30) := by kernel_rfl
theorem spec30 (a b : Md) : Spec Try.prog 30 [.fz (.agg (encMd a)), .fz (.agg (encMd b))] (.fz (.bool (befB a.server a.name b.server b.name))) := by
  refine spec_at (n := 22) (ars := [(.t 4)]) (ac := ac30) Try.func30 (by kernel_rfl) (by kernel_rfl) tr30 (by kernel_rfl) ?_
  unfold ac30
  iterate 30 (all_goals (try (first
    | (with_reducible refine ite_in (fun _ => ?_) (fun _ => ?_))
    | (with_reducible refine ⟨fun _ => ?_, fun _ => ?_⟩)
    | (with_reducible refine And.intro ?_ ?_)
    | (with_reducible intro _)
    | (with_reducible exact is_in _)
    | (simp -implicitDefEqProofs only [SD, SF, SL, e_nf, reduceCtorEq, implies_true, ↓reduceIte, Nat.reduceEqDiff, Nat.reduceAdd, Nat.reduceMul, Nat.reduceSub, Nat.reduceLeDiff, Nat.reduceLT, Int.reduceLT, Int.reduceLE, Int.reduceEq, Int.reduceToNat, Int.reduceAdd, Int.reduceSub, Int.reduceNeg, Int.reduceBEq, Int.reduceBNe, Nat.reduceBEq, Int.cast_ofNat_Int, decide_true, decide_false, ne_eq, eq_self_iff_true, beq_eq_false_iff_ne, bne_iff_ne, List.replicate, encMd, *]))))
  all_goals (first | (simp_all [befB]; done) | grind [befB])
def ac32 : AC := (.seq (.ops [⟨(some 3), none, (.box (.t 0))⟩, ⟨(some 6), none, (.mv (.c (.bool false)))⟩]) (.seq (.ops [⟨(some 7), none, (.fld 0 (.t 3))⟩, ⟨(some 8), none, (.ld false 1 (.t 7))⟩, ⟨(some 9), none, (.mv (.t 1))⟩, ⟨(some 10), none, (.bin .lss (.t 8) (.t 9))⟩, ⟨(some 11), none, (.mv (.t 10))⟩, ⟨(some 12), (some (11, false)), (.fld 0 (.t 3))⟩, ⟨(some 13), (some (11, false)), (.ld false 1 (.t 12))⟩, ⟨(some 14), (some (11, false)), (.mv (.t 1))⟩, ⟨(some 15), (some (11, false)), (.bin .eql (.t 13) (.t 14))⟩, ⟨(some 16), (some (11, false)), (.mv (.t 15))⟩, ⟨(some 17), (some (16, true)), (.fld 1 (.t 3))⟩, ⟨(some 18), (some (16, true)), (.ld false 1 (.t 17))⟩, ⟨(some 19), (some (16, true)), (.mv (.t 2))⟩, ⟨(some 20), (some (16, true)), (.bin .lss (.t 18) (.t 19))⟩, ⟨(some 21), (some (11, false)), (.pick (.t 16) (.t 20) (.c (.bool false)))⟩, ⟨(some 22), none, (.pick (.t 11) (.c (.bool true)) (.t 21))⟩, ⟨(some 6), none, (.mv (.t 22))⟩]) .ret))
theorem tr32 : Try.f32.body.bind (trCode Try.prog) = some (strip ac32) := by kernel_rfl
theorem spec32 (a : Md) (c d : List UInt8) : Spec Try.prog 32 [.fz (.agg (encMd a)), .fz (.str c), .fz (.str d)] (.fz (.bool (befB a.server a.name c d))) := by
  refine spec_at (n := 20) (ars := [(.t 6)]) (ac := ac32) Try.func32 (by kernel_rfl) (by kernel_rfl) tr32 (by kernel_rfl) ?_
  unfold ac32
  iterate 30 (all_goals (try (first
    | (with_reducible refine ite_in (fun _ => ?_) (fun _ => ?_))
    | (with_reducible refine ⟨fun _ => ?_, fun _ => ?_⟩)
    | (with_reducible refine And.intro ?_ ?_)
    | (with_reducible intro _)
    | (with_reducible exact is_in _)
    | (simp -implicitDefEqProofs only [SD, SF, SL, e_nf, reduceCtorEq, implies_true, ↓reduceIte, Nat.reduceEqDiff, Nat.reduceAdd, Nat.reduceMul, Nat.reduceSub, Nat.reduceLeDiff, Nat.reduceLT, Int.reduceLT, Int.reduceLE, Int.reduceEq, Int.reduceToNat, Int.reduceAdd, Int.reduceSub, Int.reduceNeg, Int.reduceBEq, Int.reduceBNe, Nat.reduceBEq, Int.cast_ofNat_Int, decide_true, decide_false, ne_eq, eq_self_iff_true, beq_eq_false_iff_ne, bne_iff_ne, List.replicate, encMd, *]))))
  all_goals (first | (simp_all [befB]; done) | grind [befB])
def ac40 : AC := (.seq (.ops [⟨(some 3), none, (.box (.t 0))⟩, ⟨(some 4), none, (.mv (.c (.bool false)))⟩]) (.seq (.ops [⟨(some 5), none, (.fld 0 (.t 3))⟩, ⟨(some 6), none, (.ld false 1 (.t 5))⟩, ⟨(some 7), none, (.ld false 1 (.t 1))⟩, ⟨(some 8), none, (.bin .eql (.t 6) (.t 7))⟩, ⟨(some 9), none, (.mv (.t 8))⟩, ⟨(some 10), (some (9, true)), (.fld 1 (.t 3))⟩, ⟨(some 11), (some (9, true)), (.ld false 1 (.t 10))⟩, ⟨(some 12), (some (9, true)), (.ld false 1 (.t 2))⟩, ⟨(some 13), (some (9, true)), (.bin .eql (.t 11) (.t 12))⟩, ⟨(some 14), none, (.pick (.t 9) (.t 13) (.c (.bool false)))⟩, ⟨(some 4), none, (.mv (.t 14))⟩]) .ret))
theorem tr40 : Try.f40.body.bind (trCode Try.prog) = some (strip ac40) := by kernel_rfl
theorem spec40 (m : Md) (a b : List UInt8) : Spec Try.prog 40 [.fz (.agg (encMd m)), .fz (.pf [.str a]), .fz (.pf [.str b])] (.fz (.bool (decide (m.server = a ∧ m.name = b)))) := by
  refine spec_at (n := 12) (ars := [(.t 4)]) (ac := ac40) Try.func40 (by kernel_rfl) (by kernel_rfl) tr40 (by kernel_rfl) ?_
  unfold ac40
  iterate 30 (all_goals (try (first
    | (with_reducible refine ite_in (fun _ => ?_) (fun _ => ?_))
    | (with_reducible refine ⟨fun _ => ?_, fun _ => ?_⟩)
    | (with_reducible refine And.intro ?_ ?_)
    | (with_reducible intro _)
    | (with_reducible exact is_in _)
    | (simp -implicitDefEqProofs only [SD, SF, SL, e_nf, reduceCtorEq, implies_true, ↓reduceIte, Nat.reduceEqDiff, Nat.reduceAdd, Nat.reduceMul, Nat.reduceSub, Nat.reduceLeDiff, Nat.reduceLT, Int.reduceLT, Int.reduceLE, Int.reduceEq, Int.reduceToNat, Int.reduceAdd, Int.reduceSub, Int.reduceNeg, Int.reduceBEq, Int.reduceBNe, Nat.reduceBEq, Int.cast_ofNat_Int, decide_true, decide_false, ne_eq, eq_self_iff_true, beq_eq_false_iff_ne, bne_iff_ne, List.replicate, encMd, *]))))
  all_goals (first | (simp_all; done) | grind)
def ac39 : AC := (.seq (.ops [⟨(some 4), none, (.mv (.c (.int .i64 0)))⟩]) (.seq (.seq (.ops [⟨(some 6), none, (.mv (.t 0))⟩, ⟨(some 7), none, (.len (.t 6))⟩, ⟨(some 8), none, (.mv (.c (.int .i64 0)))⟩]) (.block 0 (.loop (.seq (.ops [⟨(some 9), none, (.bin .lss (.t 8) (.t 7))⟩]) (.seq (.cond (.t 9) .skip (.exit 0)) (.seq (.block 1 (.seq (.ops [⟨(some 10), none, (.mv (.t 8))⟩, ⟨(some 5), none, (.mv (.t 10))⟩]) (.seq (.ops [⟨(some 11), none, (.mv (.t 1))⟩, ⟨(some 12), none, (.mv (.t 0))⟩, ⟨(some 13), none, (.mv (.t 5))⟩, ⟨(some 14), none, (.ix 5 (.t 12) (.t 13))⟩, ⟨(some 15), none, (.ld true 5 (.t 14))⟩, ⟨(some 16), none, (.callv (.t 11) [(.t 15)])⟩]) (.cond (.t 16) (.seq (.ops [⟨(some 17), none, (.mv (.t 5))⟩, ⟨(some 4), none, (.mv (.t 17))⟩]) .ret) .skip)))) (.ops [⟨(some 18), none, (.bin .add (.t 8) (.c (.int .i64 1)))⟩, ⟨(some 8), none, (.mv (.t 18))⟩]))))))) (.seq (.ops [⟨(some 4), none, (.mv (.c (.int .i64 (-1))))⟩]) .ret)))
theorem tr39 : Try.f39.body.bind (trCode Try.prog) = some (strip ac39) := by kernel_rfl
theorem spec39 (l : List Md) (u v : List UInt8) : Spec Try.prog 39 [.fz (.sl 5 (l.map encMd)), .fz (.fn 40 [.pf [.str u], .pf [.str v]])] (.fz (.int .i64 (placeL l u v 0))) := by
  refine spec_at (n := 17) (ars := [(.t 4)]) (ac := ac39) Try.func39 (by kernel_rfl) (by kernel_rfl) tr39 (by kernel_rfl) ?_
  unfold ac39
  simp -implicitDefEqProofs only [SD, SF, SL, e_nf, reduceCtorEq, implies_true, ↓reduceIte, Nat.reduceEqDiff, Nat.reduceAdd, Nat.reduceMul, Nat.reduceSub, Nat.reduceLeDiff, Nat.reduceLT, Int.reduceLT, Int.reduceLE, Int.reduceEq, Int.reduceToNat, Int.reduceAdd, Int.reduceSub, Int.reduceNeg, Int.reduceBEq, Int.reduceBNe, Nat.reduceBEq, Int.cast_ofNat_Int, decide_true, decide_false, ne_eq, eq_self_iff_true, beq_eq_false_iff_ne, bne_iff_ne, List.replicate]
  intro hl
  refine loop_q (X := List Md × List Md × Unit) (fun n x => l = x.1 ++ x.2.1 ∧ n = x.2.1.length ∧ (placeL l u v 0 = placeL x.2.1 u v x.1.length)) (fun x => [(8, .int .i64 x.1.length)]) (fun _ => []) [4, 5, 9, 10, 11, 12, 13, 14, 15, 16, 17, 18] []  (l).length ([], l, ()) ⟨rfl, rfl, by first | rfl | assumption | (simp_all [placeL]; done) | grind [placeL]⟩ ?_ ?_
  · simp -implicitDefEqProofs only [SD, SF, SL, e_nf, reduceCtorEq, implies_true, ↓reduceIte, Nat.reduceEqDiff, Nat.reduceAdd, Nat.reduceMul, Nat.reduceSub, Nat.reduceLeDiff, Nat.reduceLT, Int.reduceLT, Int.reduceLE, Int.reduceEq, Int.reduceToNat, Int.reduceAdd, Int.reduceSub, Int.reduceNeg, Int.reduceBEq, Int.reduceBNe, Nat.reduceBEq, Int.cast_ofNat_Int, decide_true, decide_false, ne_eq, eq_self_iff_true, beq_eq_false_iff_ne, bne_iff_ne, List.replicate, placeL] <;> simp
  · rintro n ⟨pre, rest, a⟩ ⟨he, rfl, hI⟩
    dsimp only at he hI
    cases rest with
    | nil =>
      obtain rfl : l = pre := by simpa using he
      clear he
      have hlt : ¬ (((l).length : Int) < ((l).length : Int)) := Int.lt_irrefl _
      iterate 30 (all_goals (try (first
        | ((with_reducible refine of_kSpec ?_); refine call_fz (spec40 x u v) rfl ?_)
        | (with_reducible refine ite_in (fun _ => ?_) (fun _ => ?_))
        | (with_reducible refine ⟨fun _ => ?_, fun _ => ?_⟩)
        | (with_reducible refine And.intro ?_ ?_)
        | (with_reducible intro _)
        | (with_reducible exact is_in _)
        | (simp -implicitDefEqProofs only [SD, SF, SL, e_nf, reduceCtorEq, implies_true, ↓reduceIte, Nat.reduceEqDiff, Nat.reduceAdd, Nat.reduceMul, Nat.reduceSub, Nat.reduceLeDiff, Nat.reduceLT, Int.reduceLT, Int.reduceLE, Int.reduceEq, Int.reduceToNat, Int.reduceAdd, Int.reduceSub, Int.reduceNeg, Int.reduceBEq, Int.reduceBNe, Nat.reduceBEq, Int.cast_ofNat_Int, decide_true, decide_false, ne_eq, eq_self_iff_true, beq_eq_false_iff_ne, bne_iff_ne, List.replicate, placeL, *]))))

    | cons x rest =>
      have hlt := cut_lt he
      have hx := cutD encMd he
      simp only [encMd] at hx
      have hw := wrap_len (n := pre.length) (m := (l).length) (cut_lt' he) (by simpa using hl)
      replace he := Hd.mk he
      have hx2 : (List.map encMd l).getD pre.length [] = encMd x := cutD encMd he.out
      iterate 30 (all_goals (try (first
        | ((with_reducible refine back_in rest.length [4, 5, 9, 10, 11, 12, 13, 14, 15, 16, 17, 18] [] (pre ++ [x], rest, a) ?_ ⟨?_, ?_, ?_⟩ ?_)
           · simp
           · exact cut_snoc he.out
           · rfl
           · first | rfl | assumption | (simp_all [placeL]; done) | grind [placeL]
           · first | (simp -implicitDefEqProofs only [SD, SF, SL, e_nf, reduceCtorEq, implies_true, ↓reduceIte, Nat.reduceEqDiff, Nat.reduceAdd, Nat.reduceMul, Nat.reduceSub, Nat.reduceLeDiff, Nat.reduceLT, Int.reduceLT, Int.reduceLE, Int.reduceEq, Int.reduceToNat, Int.reduceAdd, Int.reduceSub, Int.reduceNeg, Int.reduceBEq, Int.reduceBNe, Nat.reduceBEq, Int.cast_ofNat_Int, decide_true, decide_false, ne_eq, eq_self_iff_true, beq_eq_false_iff_ne, bne_iff_ne, List.replicate, placeL] <;> simp <;> done) | (simp -implicitDefEqProofs only [SD, SF, SL, e_nf, reduceCtorEq, implies_true, ↓reduceIte, Nat.reduceEqDiff, Nat.reduceAdd, Nat.reduceMul, Nat.reduceSub, Nat.reduceLeDiff, Nat.reduceLT, Int.reduceLT, Int.reduceLE, Int.reduceEq, Int.reduceToNat, Int.reduceAdd, Int.reduceSub, Int.reduceNeg, Int.reduceBEq, Int.reduceBNe, Nat.reduceBEq, Int.cast_ofNat_Int, decide_true, decide_false, ne_eq, eq_self_iff_true, beq_eq_false_iff_ne, bne_iff_ne, List.replicate, placeL, *] <;> simp_all <;> done))
        | ((with_reducible refine of_kSpec ?_); refine call_fz (spec40 x u v) rfl ?_)
        | (with_reducible refine ite_in (fun _ => ?_) (fun _ => ?_))
        | (with_reducible refine ⟨fun _ => ?_, fun _ => ?_⟩)
        | (with_reducible refine And.intro ?_ ?_)
        | (with_reducible intro _)
        | (with_reducible exact is_in _)
        | (simp -implicitDefEqProofs only [SD, SF, SL, e_nf, reduceCtorEq, implies_true, ↓reduceIte, Nat.reduceEqDiff, Nat.reduceAdd, Nat.reduceMul, Nat.reduceSub, Nat.reduceLeDiff, Nat.reduceLT, Int.reduceLT, Int.reduceLE, Int.reduceEq, Int.reduceToNat, Int.reduceAdd, Int.reduceSub, Int.reduceNeg, Int.reduceBEq, Int.reduceBNe, Nat.reduceBEq, Int.cast_ofNat_Int, decide_true, decide_false, ne_eq, eq_self_iff_true, beq_eq_false_iff_ne, bne_iff_ne, List.replicate, placeL, *]))))
def ac27 : AC := (.seq (.ops [⟨(some 4), none, (.box (.t 1))⟩, ⟨(some 5), none, (.box (.t 2))⟩, ⟨(some 6), none, (.mv (.c (.int .i64 0)))⟩]) (.seq (.ops [⟨(some 7), none, (.mv (.t 0))⟩, ⟨(some 8), none, (.mkfn 40 [(.t 4), (.t 5)])⟩, ⟨(some 9), none, (.call false 39 [(.t 7), (.t 8)])⟩, ⟨(some 6), none, (.mv (.t 9))⟩]) .ret))
theorem tr27 : Try.f27.body.bind (trCode Try.prog) = some (strip ac27) := by kernel_rfl
theorem spec27 (l : List Md) (u v : List UInt8) : Spec Try.prog 27 [.fz (.sl 5 (l.map encMd)), .fz (.str u), .fz (.str v)] (.fz (.int .i64 (placeL l u v 0))) := by
  refine spec_at (n := 7) (ars := [(.t 6)]) (ac := ac27) Try.func27 (by kernel_rfl) (by kernel_rfl) tr27 (by kernel_rfl) ?_
  unfold ac27
  iterate 30 (all_goals (try (first
    | ((with_reducible refine of_kSpec ?_); refine call_fz (spec39 l u v) rfl ?_)
    | (with_reducible refine ite_in (fun _ => ?_) (fun _ => ?_))
    | (with_reducible refine ⟨fun _ => ?_, fun _ => ?_⟩)
    | (with_reducible refine And.intro ?_ ?_)
    | (with_reducible intro _)
    | (with_reducible exact is_in _)
    | (simp -implicitDefEqProofs only [SD, SF, SL, e_nf, reduceCtorEq, implies_true, ↓reduceIte, Nat.reduceEqDiff, Nat.reduceAdd, Nat.reduceMul, Nat.reduceSub, Nat.reduceLeDiff, Nat.reduceLT, Int.reduceLT, Int.reduceLE, Int.reduceEq, Int.reduceToNat, Int.reduceAdd, Int.reduceSub, Int.reduceNeg, Int.reduceBEq, Int.reduceBNe, Nat.reduceBEq, Int.cast_ofNat_Int, decide_true, decide_false, ne_eq, eq_self_iff_true, beq_eq_false_iff_ne, bne_iff_ne, List.replicate, *]))))
def ac28 : AC := (.seq (.ops [⟨(some 6), none, (.mv (.c (.int .i64 0)))⟩]) (.seq (.seq (.ops [⟨(some 7), none, (.mv (.c (.int .i64 0)))⟩]) (.block 0 (.loop (.seq (.seq (.ops [⟨(some 8), none, (.mv (.t 7))⟩, ⟨(some 9), none, (.mv (.t 0))⟩, ⟨(some 10), none, (.len (.t 9))⟩, ⟨(some 11), none, (.bin .lss (.t 8) (.t 10))⟩]) (.cond (.t 11) .skip (.exit 0))) (.seq (.block 1 (.seq (.ops [⟨(some 14), none, (.mv (.t 0))⟩, ⟨(some 15), none, (.mv (.t 7))⟩, ⟨(some 16), none, (.ix 5 (.t 14) (.t 15))⟩, ⟨(some 17), none, (.fld 0 (.t 16))⟩, ⟨(some 18), none, (.ld false 1 (.t 17))⟩, ⟨(some 19), none, (.mv (.t 1))⟩, ⟨(some 20), none, (.bin .eql (.t 18) (.t 19))⟩, ⟨(some 21), none, (.mv (.t 20))⟩, ⟨(some 22), (some (21, true)), (.mv (.t 0))⟩, ⟨(some 23), (some (21, true)), (.mv (.t 7))⟩, ⟨(some 24), (some (21, true)), (.ix 5 (.t 22) (.t 23))⟩, ⟨(some 25), (some (21, true)), (.fld 1 (.t 24))⟩, ⟨(some 26), (some (21, true)), (.ld false 1 (.t 25))⟩, ⟨(some 27), (some (21, true)), (.mv (.t 2))⟩, ⟨(some 28), (some (21, true)), (.bin .eql (.t 26) (.t 27))⟩, ⟨(some 29), none, (.pick (.t 21) (.t 28) (.c (.bool false)))⟩]) (.cond (.t 29) (.seq (.ops [⟨(some 30), none, (.mv (.t 7))⟩, ⟨(some 6), none, (.mv (.t 30))⟩]) .ret) .skip))) (.ops [⟨(some 12), none, (.mv (.t 7))⟩, ⟨(some 13), none, (.bin .add (.t 12) (.c (.int .i64 1)))⟩, ⟨(some 7), none, (.mv (.t 13))⟩])))))) (.seq (.ops [⟨(some 6), none, (.mv (.c (.int .i64 (-1))))⟩]) .ret)))
theorem tr28 : Try.f28.body.bind (trCode Try.prog) = some (strip ac28) := by kernel_rfl
theorem spec28 (l : List Md) (u v : List UInt8) : Spec Try.prog 28 [.fz (.sl 5 (l.map encMd)), .fz (.str u), .fz (.str v)] (.fz (.int .i64 (placeL l u v 0))) := by
  refine spec_at (n := 28) (ars := [(.t 6)]) (ac := ac28) Try.func28 (by kernel_rfl) (by kernel_rfl) tr28 (by kernel_rfl) ?_
  unfold ac28
  simp -implicitDefEqProofs only [SD, SF, SL, e_nf, reduceCtorEq, implies_true, ↓reduceIte, Nat.reduceEqDiff, Nat.reduceAdd, Nat.reduceMul, Nat.reduceSub, Nat.reduceLeDiff, Nat.reduceLT, Int.reduceLT, Int.reduceLE, Int.reduceEq, Int.reduceToNat, Int.reduceAdd, Int.reduceSub, Int.reduceNeg, Int.reduceBEq, Int.reduceBNe, Nat.reduceBEq, Int.cast_ofNat_Int, decide_true, decide_false, ne_eq, eq_self_iff_true, beq_eq_false_iff_ne, bne_iff_ne, List.replicate]
  refine loop_q (X := List Md × List Md × Unit) (fun n x => l = x.1 ++ x.2.1 ∧ n = x.2.1.length ∧ (placeL l u v 0 = placeL x.2.1 u v x.1.length)) (fun x => [(7, .int .i64 x.1.length)]) (fun _ => []) [6, 8, 9, 10, 11, 12, 13, 14, 15, 16, 17, 18, 19, 20, 21, 22, 23, 24, 25, 26, 27, 28, 29, 30] []  (l).length ([], l, ()) ⟨rfl, rfl, by first | rfl | assumption | (simp_all [placeL]; done) | grind [placeL]⟩ ?_ ?_
  · simp -implicitDefEqProofs only [SD, SF, SL, e_nf, reduceCtorEq, implies_true, ↓reduceIte, Nat.reduceEqDiff, Nat.reduceAdd, Nat.reduceMul, Nat.reduceSub, Nat.reduceLeDiff, Nat.reduceLT, Int.reduceLT, Int.reduceLE, Int.reduceEq, Int.reduceToNat, Int.reduceAdd, Int.reduceSub, Int.reduceNeg, Int.reduceBEq, Int.reduceBNe, Nat.reduceBEq, Int.cast_ofNat_Int, decide_true, decide_false, ne_eq, eq_self_iff_true, beq_eq_false_iff_ne, bne_iff_ne, List.replicate, placeL] <;> simp
  · rintro n ⟨pre, rest, a⟩ ⟨he, rfl, hI⟩
    dsimp only at he hI
    cases rest with
    | nil =>
      obtain rfl : l = pre := by simpa using he
      clear he
      have hlt : ¬ (((l).length : Int) < ((l).length : Int)) := Int.lt_irrefl _
      iterate 30 (all_goals (try (first
        | (with_reducible refine ite_in (fun _ => ?_) (fun _ => ?_))
        | (with_reducible refine ⟨fun _ => ?_, fun _ => ?_⟩)
        | (with_reducible refine And.intro ?_ ?_)
        | (with_reducible intro _)
        | (with_reducible exact is_in _)
        | (simp -implicitDefEqProofs only [SD, SF, SL, e_nf, reduceCtorEq, implies_true, ↓reduceIte, Nat.reduceEqDiff, Nat.reduceAdd, Nat.reduceMul, Nat.reduceSub, Nat.reduceLeDiff, Nat.reduceLT, Int.reduceLT, Int.reduceLE, Int.reduceEq, Int.reduceToNat, Int.reduceAdd, Int.reduceSub, Int.reduceNeg, Int.reduceBEq, Int.reduceBNe, Nat.reduceBEq, Int.cast_ofNat_Int, decide_true, decide_false, ne_eq, eq_self_iff_true, beq_eq_false_iff_ne, bne_iff_ne, List.replicate, placeL, *]))))

    | cons x rest =>
      have hlt := cut_lt he
      have hx := cutD encMd he
      simp only [encMd] at hx
      simp -implicitDefEqProofs only [SD, SF, SL, e_nf, reduceCtorEq, implies_true, ↓reduceIte, Nat.reduceEqDiff, Nat.reduceAdd, Nat.reduceMul, Nat.reduceSub, Nat.reduceLeDiff, Nat.reduceLT, Int.reduceLT, Int.reduceLE, Int.reduceEq, Int.reduceToNat, Int.reduceAdd, Int.reduceSub, Int.reduceNeg, Int.reduceBEq, Int.reduceBNe, Nat.reduceBEq, Int.cast_ofNat_Int, decide_true, decide_false, ne_eq, eq_self_iff_true, beq_eq_false_iff_ne, bne_iff_ne, List.replicate, placeL, hlt]
      intro hl
      have hw := wrap_len (n := pre.length) (m := (l).length) (cut_lt' he) (by simpa using hl)
      replace he := Hd.mk he
      iterate 30 (all_goals (try (first
        | ((with_reducible refine back_in rest.length [6, 8, 9, 10, 11, 12, 13, 14, 15, 16, 17, 18, 19, 20, 21, 22, 23, 24, 25, 26, 27, 28, 29, 30] [] (pre ++ [x], rest, a) ?_ ⟨?_, ?_, ?_⟩ ?_)
           · simp
           · exact cut_snoc he.out
           · rfl
           · first | rfl | assumption | (simp_all [placeL]; done) | grind [placeL]
           · first | (simp -implicitDefEqProofs only [SD, SF, SL, e_nf, reduceCtorEq, implies_true, ↓reduceIte, Nat.reduceEqDiff, Nat.reduceAdd, Nat.reduceMul, Nat.reduceSub, Nat.reduceLeDiff, Nat.reduceLT, Int.reduceLT, Int.reduceLE, Int.reduceEq, Int.reduceToNat, Int.reduceAdd, Int.reduceSub, Int.reduceNeg, Int.reduceBEq, Int.reduceBNe, Nat.reduceBEq, Int.cast_ofNat_Int, decide_true, decide_false, ne_eq, eq_self_iff_true, beq_eq_false_iff_ne, bne_iff_ne, List.replicate, placeL] <;> simp <;> done) | (simp -implicitDefEqProofs only [SD, SF, SL, e_nf, reduceCtorEq, implies_true, ↓reduceIte, Nat.reduceEqDiff, Nat.reduceAdd, Nat.reduceMul, Nat.reduceSub, Nat.reduceLeDiff, Nat.reduceLT, Int.reduceLT, Int.reduceLE, Int.reduceEq, Int.reduceToNat, Int.reduceAdd, Int.reduceSub, Int.reduceNeg, Int.reduceBEq, Int.reduceBNe, Nat.reduceBEq, Int.cast_ofNat_Int, decide_true, decide_false, ne_eq, eq_self_iff_true, beq_eq_false_iff_ne, bne_iff_ne, List.replicate, placeL, *] <;> simp_all <;> done))
        | (with_reducible refine ite_in (fun _ => ?_) (fun _ => ?_))
        | (with_reducible refine ⟨fun _ => ?_, fun _ => ?_⟩)
        | (with_reducible refine And.intro ?_ ?_)
        | (with_reducible intro _)
        | (with_reducible exact is_in _)
        | (simp -implicitDefEqProofs only [SD, SF, SL, e_nf, reduceCtorEq, implies_true, ↓reduceIte, Nat.reduceEqDiff, Nat.reduceAdd, Nat.reduceMul, Nat.reduceSub, Nat.reduceLeDiff, Nat.reduceLT, Int.reduceLT, Int.reduceLE, Int.reduceEq, Int.reduceToNat, Int.reduceAdd, Int.reduceSub, Int.reduceNeg, Int.reduceBEq, Int.reduceBNe, Nat.reduceBEq, Int.cast_ofNat_Int, decide_true, decide_false, ne_eq, eq_self_iff_true, beq_eq_false_iff_ne, bne_iff_ne, List.replicate, placeL, *]))))

end Go.Proofs.Ytfcjmblhcakhaaa.E
