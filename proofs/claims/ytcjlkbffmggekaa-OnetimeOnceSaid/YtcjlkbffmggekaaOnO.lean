/-
  OnO: walks of functions of the program at data level.
-/
import Derived.Test.YtcjlkbffmggekaaProg
import Derived.Test.YtcjlkbffmggekaaEngZ
import Derived.Test.YtcjlkbffmggekaaOnN
import Derived.Test.YtcjlkbffmggekaaOnK
import Derived.KernelRfl
set_option linter.unusedVariables false
set_option linter.unusedSimpArgs false
namespace Go.Proofs.Ytcjlkbffmggekaa.E
open Go
set_option maxHeartbeats 4000000
set_option maxRecDepth 100000
set_option linter.unusedSimpArgs false
set_option linter.unusedVariables false
attribute [local congr] c_wp c_ops c_op c_opS c_run c_runS c_dt c_seq c_blk c_loop c_S c_put c_bind c_mv c_pick c_nt c_ng c_bin c_binI c_binS c_beq c_B c_eqa c_hd c_cells c_blkK c_box c_vec c_mp c_nck c_mks c_appn c_mkm c_mput c_mlk c_mrm c_take c_ld c_ldF c_cellsK c_st c_fld c_fldv c_ix c_ixp c_ixv c_ixs c_sub c_subs c_len c_lens c_src c_dst c_ow c_app c_ext c_mm c_conv c_str c_isn c_fill c_rows c_boxo c_frz c_frzO c_frzA c_frzV c_spec c_specO c_opsP c_opP c_runP c_specP c_Z c_qretP c_fz c_fn c_gv c_cond c_res1 c_resL c_ret c_qret c_ite c_unr c_nx c_bk c_cut c_is
attribute [local irreducible] dwp

instance : DecidableEq OT := fun a b => by
  cases a; cases b; simp only [OT.mk.injEq]; infer_instance
theorem OT_eq (a b : OT) : (a = b) = (a.user = b.user ∧ a.dev = b.dev ∧ a.next = b.next ∧ a.left = b.left) := by cases a; cases b; simp
def nameD (u d : List UInt8) : Bool := markB u 64 && decide (1 ≤ d.length ∧ d.length ≤ 32)
def numB (x : OT) : Bool := decide (x.left < 0 ∨ 200 < x.left ∨ x.next < x.left ∨ 1000000000000 < x.next)
def validR (x : OT) : Int := if nameD x.user x.dev = false then 3 else if numB x = true then 2 else 0
def befB (a b c d : List UInt8) : Bool := Op.bytesLess a c || (a == c) && Op.bytesLess b d
def okPrev (p : Option OT) (m : OT) : Bool := match p with
  | none => true
  | some p => befB p.user p.dev m.user m.dev
def chkF : Option OT → List OT → Int
  | _, [] => 0
  | p, m :: r => if validR m ≠ 0 then validR m else if okPrev p m = false then 8 else chkF (some m) r
def chkL (l : List OT) : Int := chkF none l
def placeL : List OT → List UInt8 → List UInt8 → Nat → Int
  | [], _, _, _ => -1
  | m :: r, a, b, i => if m.user = a ∧ m.dev = b then i else placeL r a b (i + 1)
def bm (m y : OT) : Bool := befB y.user y.dev m.user m.dev
def insL (l : List OT) (m : OT) : List OT := l.takeWhile (bm m) ++ m :: l.dropWhile (bm m)
theorem tw_end {p : OT → Bool} : ∀ {l : List OT}, l.all p = true → l.takeWhile p = l ∧ l.dropWhile p = []
  | [], _ => ⟨rfl, rfl⟩
  | x :: l, h => by
    simp only [List.all_cons, Bool.and_eq_true] at h
    obtain ⟨h1, h2⟩ := tw_end h.2
    rw [List.takeWhile_cons, List.dropWhile_cons, h.1, h1, h2]
    exact ⟨rfl, rfl⟩
theorem tw_mid {p : OT → Bool} {x : OT} {rest : List OT} (hx : p x = false) : ∀ {l : List OT}, l.all p = true → (l ++ x :: rest).takeWhile p = l ∧ (l ++ x :: rest).dropWhile p = x :: rest
  | [], _ => by rw [List.nil_append, List.takeWhile_cons, List.dropWhile_cons, hx]; exact ⟨rfl, rfl⟩
  | y :: l, h => by
    simp only [List.all_cons, Bool.and_eq_true] at h
    obtain ⟨h1, h2⟩ := tw_mid hx h.2 (rest := rest)
    rw [List.cons_append, List.takeWhile_cons, List.dropWhile_cons, h.1, h1, h2]
    exact ⟨rfl, rfl⟩
theorem ins_at_end {l : List OT} {m : OT} (h : l.all (bm m) = true) : (insL l m).map encOT = (l.map encOT).take l.length ++ encOT m :: (l.map encOT).drop l.length := by
  rw [insL, (tw_end h).1, (tw_end h).2, List.map_append, List.take_of_length_le (by simp), List.drop_eq_nil_of_le (by simp)]
  rfl
theorem ins_at {l pre : List OT} {x : OT} {rest : List OT} {m : OT} (he : l = pre ++ x :: rest) (h : pre.all (bm m) = true) (hx : bm m x = false) : (insL l m).map encOT = (l.map encOT).take pre.length ++ encOT m :: (l.map encOT).drop pre.length := by
  subst he
  rw [insL, (tw_mid hx h).1, (tw_mid hx h).2]
  simp only [List.map_append, List.map_cons]
  rw [List.take_left' (by simp), List.drop_left' (by simp)]
theorem prev_cases {T : Type} {enc : T → List DV} {l pre : List T} {x : T} {rest : List T} (he : l = pre ++ x :: rest) (hl : l.length ≤ maxLen) : (pre.getLast? = none ∧ ¬ ((0 : Int) < (pre.length : Int))) ∨
    ∃ p, pre.getLast? = some p ∧ (0 : Int) < (pre.length : Int) ∧ (l.map enc).getD (pre.length - 1) [] = enc p ∧ ((pre.length - 1 : Nat) : Int) < (l.length : Int) ∧ IntKind.i64.wrap ((pre.length : Int) - 1) = ((pre.length - 1 : Nat) : Int) := by
  rcases List.eq_nil_or_concat pre with rfl | ⟨pre', p, rfl⟩
  · exact .inl ⟨rfl, by simp⟩
  · refine .inr ⟨p, by simp, by simp <;> omega, ?_, ?_, ?_⟩
    · subst he
      simp [List.getD]
    · have h3 := congrArg List.length he
      simp at h3 ⊢
      omega
    · have h2 : l.length ≤ 9223372036854775807 := by simpa [maxLen] using hl
      have h3 := congrArg List.length he
      simp at h3
      simp only [List.length_append, List.length_cons, List.length_nil, List.concat_eq_append] at h3 ⊢
      rw [wrap_in (by omega) (by omega)]
      omega
def ac37 : AC := (.seq (.ops [⟨(some 4), none, (.mv (.c (.int .i64 0)))⟩]) (.seq (.seq (.ops [⟨(some 9), none, (.mv (.t 0))⟩, ⟨(some 10), none, (.mv (.t 1))⟩, ⟨(some 11), none, (.call false 40 [(.t 9), (.t 10)])⟩, ⟨(some 8), none, (.mv (.t 11))⟩, ⟨(some 12), none, (.ext (.t 8) 0)⟩, ⟨(some 13), none, (.ext (.t 8) 1)⟩, ⟨(some 14), none, (.ext (.t 8) 2)⟩, ⟨(some 5), none, (.mv (.t 12))⟩, ⟨(some 6), none, (.mv (.t 13))⟩, ⟨(some 7), none, (.mv (.t 14))⟩]) (.seq (.ops [⟨(some 15), none, (.mv (.t 7))⟩, ⟨(some 16), none, (.nt (.t 15))⟩]) (.cond (.t 16) (.seq (.ops [⟨(some 4), none, (.mv (.c (.int .i64 3)))⟩]) .ret) .skip))) (.seq (.ops [⟨(some 4), none, (.mv (.c (.int .i64 0)))⟩]) .ret)))
theorem tr37 : Try.f37.body.bind (trCode Try.prog) = some (strip ac37) := by kernel_rfl
theorem spec37 (u : List UInt8) (hb : u.length ≤ maxLen) : Spec Try.prog 37 [.fz (.str u), .fz (.str [64])] (.fz (.int .i64 (if markB u 64 = true then 0 else 3))) := by
  refine spec_at (n := 15) (ars := [(.t 4)]) (ac := ac37) Try.func37 (by kernel_rfl) (by kernel_rfl) tr37 (by kernel_rfl) ?_
  unfold ac37
  iterate 30 (all_goals (try (first
    | ((with_reducible refine of_kSpec ?_); refine call_fz (spec40 u hb) rfl ?_)
    | (with_reducible refine ite_in (fun _ => ?_) (fun _ => ?_))
    | (with_reducible refine ⟨fun _ => ?_, fun _ => ?_⟩)
    | (with_reducible refine And.intro ?_ ?_)
    | (with_reducible intro _)
    | (with_reducible exact is_in _)
    | (simp -implicitDefEqProofs only [SD, SF, SL, e_nf, reduceCtorEq, implies_true, ↓reduceIte, Nat.reduceEqDiff, Nat.reduceAdd, Nat.reduceMul, Nat.reduceSub, Nat.reduceLeDiff, Nat.reduceLT, Int.reduceLT, Int.reduceLE, Int.reduceEq, Int.reduceToNat, Int.reduceAdd, Int.reduceSub, Int.reduceNeg, Int.reduceBEq, Int.reduceBNe, Nat.reduceBEq, Int.cast_ofNat_Int, decide_true, decide_false, ne_eq, eq_self_iff_true, beq_eq_false_iff_ne, bne_iff_ne, List.replicate, *]))))
  all_goals (first | (simp_all; done) | omega)
def ac30 : AC := (.seq (.ops [⟨(some 2), none, (.mv (.c (.int .i64 0)))⟩]) (.seq (.ops [⟨(some 3), none, (.mv (.t 0))⟩, ⟨(some 4), none, (.call false 37 [(.t 3), (.c (.str [64]))])⟩, ⟨(some 2), none, (.mv (.t 4))⟩]) .ret))
theorem tr30 : Try.f30.body.bind (trCode Try.prog) = some (strip ac30) := by kernel_rfl
theorem spec30 (u : List UInt8) (hb : u.length ≤ maxLen) : Spec Try.prog 30 [.fz (.str u)] (.fz (.int .i64 (if markB u 64 = true then 0 else 3))) := by
  refine spec_at (n := 4) (ars := [(.t 2)]) (ac := ac30) Try.func30 (by kernel_rfl) (by kernel_rfl) tr30 (by kernel_rfl) ?_
  unfold ac30
  iterate 30 (all_goals (try (first
    | ((with_reducible refine of_kSpec ?_); refine call_fz (spec37 u hb) rfl ?_)
    | (with_reducible refine ite_in (fun _ => ?_) (fun _ => ?_))
    | (with_reducible refine ⟨fun _ => ?_, fun _ => ?_⟩)
    | (with_reducible refine And.intro ?_ ?_)
    | (with_reducible intro _)
    | (with_reducible exact is_in _)
    | (simp -implicitDefEqProofs only [SD, SF, SL, e_nf, reduceCtorEq, implies_true, ↓reduceIte, Nat.reduceEqDiff, Nat.reduceAdd, Nat.reduceMul, Nat.reduceSub, Nat.reduceLeDiff, Nat.reduceLT, Int.reduceLT, Int.reduceLE, Int.reduceEq, Int.reduceToNat, Int.reduceAdd, Int.reduceSub, Int.reduceNeg, Int.reduceBEq, Int.reduceBNe, Nat.reduceBEq, Int.cast_ofNat_Int, decide_true, decide_false, ne_eq, eq_self_iff_true, beq_eq_false_iff_ne, bne_iff_ne, List.replicate, *]))))
  all_goals (first | (simp_all; done) | omega)
def ac31 : AC := (.seq (.ops [⟨(some 2), none, (.mv (.c (.int .i64 0)))⟩]) (.seq (.seq (.ops [⟨(some 3), none, (.mv (.t 0))⟩, ⟨(some 4), none, (.call false 38 [(.t 3), (.c (.int .u8 64))])⟩, ⟨(some 5), none, (.nt (.t 4))⟩]) (.cond (.t 5) (.seq (.ops [⟨(some 2), none, (.mv (.c (.int .i64 3)))⟩]) .ret) .skip)) (.seq (.ops [⟨(some 2), none, (.mv (.c (.int .i64 0)))⟩]) .ret)))
theorem tr31 : Try.f31.body.bind (trCode Try.prog) = some (strip ac31) := by kernel_rfl
theorem spec31 (u : List UInt8) (hb : u.length ≤ maxLen) : Spec Try.prog 31 [.fz (.str u)] (.fz (.int .i64 (if markB u 64 = true then 0 else 3))) := by
  refine spec_at (n := 5) (ars := [(.t 2)]) (ac := ac31) Try.func31 (by kernel_rfl) (by kernel_rfl) tr31 (by kernel_rfl) ?_
  unfold ac31
  iterate 30 (all_goals (try (first
    | ((with_reducible refine of_kSpec ?_); refine call_fz (spec64_38 u hb) rfl ?_)
    | (with_reducible refine ite_in (fun _ => ?_) (fun _ => ?_))
    | (with_reducible refine ⟨fun _ => ?_, fun _ => ?_⟩)
    | (with_reducible refine And.intro ?_ ?_)
    | (with_reducible intro _)
    | (with_reducible exact is_in _)
    | (simp -implicitDefEqProofs only [SD, SF, SL, e_nf, reduceCtorEq, implies_true, ↓reduceIte, Nat.reduceEqDiff, Nat.reduceAdd, Nat.reduceMul, Nat.reduceSub, Nat.reduceLeDiff, Nat.reduceLT, Int.reduceLT, Int.reduceLE, Int.reduceEq, Int.reduceToNat, Int.reduceAdd, Int.reduceSub, Int.reduceNeg, Int.reduceBEq, Int.reduceBNe, Nat.reduceBEq, Int.cast_ofNat_Int, decide_true, decide_false, ne_eq, eq_self_iff_true, beq_eq_false_iff_ne, bne_iff_ne, List.replicate, *]))))
  all_goals (first | (simp_all; done) | omega)
def ac21 : AC := (.seq (.ops [⟨(some 4), none, (.mv (.c (.bool false)))⟩]) (.seq (.ops [⟨(some 5), none, (.mv (.t 0))⟩, ⟨(some 6), none, (.call false 30 [(.t 5)])⟩, ⟨(some 7), none, (.bin .eql (.t 6) (.c (.int .i64 0)))⟩, ⟨(some 8), none, (.mv (.t 7))⟩, ⟨(some 9), (some (8, true)), (.mv (.t 1))⟩, ⟨(some 10), (some (8, true)), (.lens (.t 9))⟩, ⟨(some 11), (some (8, true)), (.bin .geq (.t 10) (.c (.int .i64 1)))⟩, ⟨(some 12), none, (.pick (.t 8) (.t 11) (.c (.bool false)))⟩, ⟨(some 13), none, (.mv (.t 12))⟩, ⟨(some 14), (some (13, true)), (.mv (.t 1))⟩, ⟨(some 15), (some (13, true)), (.lens (.t 14))⟩, ⟨(some 16), (some (13, true)), (.bin .leq (.t 15) (.c (.int .i64 32)))⟩, ⟨(some 17), none, (.pick (.t 13) (.t 16) (.c (.bool false)))⟩, ⟨(some 4), none, (.mv (.t 17))⟩]) .ret))
theorem tr21 : Try.f21.body.bind (trCode Try.prog) = some (strip ac21) := by kernel_rfl
theorem spec0_21 (u d : List UInt8) (hb : u.length ≤ maxLen) : Spec Try.prog 21 [.fz (.str u), .fz (.str d)] (.fz (.bool (nameD u d))) := by
  refine spec_at (n := 16) (ars := [(.t 4)]) (ac := ac21) Try.func21 (by kernel_rfl) (by kernel_rfl) tr21 (by kernel_rfl) ?_
  unfold ac21
  iterate 30 (all_goals (try (first
    | ((with_reducible refine of_kSpec ?_); refine call_fz (spec30 u hb) rfl ?_)
    | (with_reducible refine ite_in (fun _ => ?_) (fun _ => ?_))
    | (with_reducible refine ⟨fun _ => ?_, fun _ => ?_⟩)
    | (with_reducible refine And.intro ?_ ?_)
    | (with_reducible intro _)
    | (with_reducible exact is_in _)
    | (simp -implicitDefEqProofs only [SD, SF, SL, e_nf, reduceCtorEq, implies_true, ↓reduceIte, Nat.reduceEqDiff, Nat.reduceAdd, Nat.reduceMul, Nat.reduceSub, Nat.reduceLeDiff, Nat.reduceLT, Int.reduceLT, Int.reduceLE, Int.reduceEq, Int.reduceToNat, Int.reduceAdd, Int.reduceSub, Int.reduceNeg, Int.reduceBEq, Int.reduceBNe, Nat.reduceBEq, Int.cast_ofNat_Int, decide_true, decide_false, ne_eq, eq_self_iff_true, beq_eq_false_iff_ne, bne_iff_ne, List.replicate, *]))))
  all_goals (first | (simp_all [nameD]; done) | (simp_all [nameD]; omega) | grind [nameD])
def ac23 : AC := (.seq (.ops [⟨(some 4), none, (.mv (.c (.int .i64 0)))⟩]) (.seq (.seq (.ops [⟨(some 5), none, (.mv (.t 0))⟩, ⟨(some 6), none, (.call false 31 [(.t 5)])⟩, ⟨(some 7), none, (.bin .neq (.t 6) (.c (.int .i64 0)))⟩, ⟨(some 8), none, (.mv (.t 7))⟩, ⟨(some 9), (some (8, false)), (.mv (.t 1))⟩, ⟨(some 10), (some (8, false)), (.lens (.t 9))⟩, ⟨(some 11), (some (8, false)), (.bin .lss (.t 10) (.c (.int .i64 1)))⟩, ⟨(some 12), none, (.pick (.t 8) (.c (.bool true)) (.t 11))⟩, ⟨(some 13), none, (.mv (.t 12))⟩, ⟨(some 14), (some (13, false)), (.mv (.t 1))⟩, ⟨(some 15), (some (13, false)), (.lens (.t 14))⟩, ⟨(some 16), (some (13, false)), (.bin .gtr (.t 15) (.c (.int .i64 32)))⟩, ⟨(some 17), none, (.pick (.t 13) (.c (.bool true)) (.t 16))⟩]) (.cond (.t 17) (.seq (.ops [⟨(some 4), none, (.mv (.c (.int .i64 3)))⟩]) .ret) .skip)) (.seq (.ops [⟨(some 4), none, (.mv (.c (.int .i64 0)))⟩]) .ret)))
theorem tr23 : Try.f23.body.bind (trCode Try.prog) = some (strip ac23) := by kernel_rfl
theorem spec0_23 (u d : List UInt8) (hb : u.length ≤ maxLen) : Spec Try.prog 23 [.fz (.str u), .fz (.str d)] (.fz (.int .i64 (if nameD u d = true then 0 else 3))) := by
  refine spec_at (n := 16) (ars := [(.t 4)]) (ac := ac23) Try.func23 (by kernel_rfl) (by kernel_rfl) tr23 (by kernel_rfl) ?_
  unfold ac23
  iterate 30 (all_goals (try (first
    | ((with_reducible refine of_kSpec ?_); refine call_fz (spec31 u hb) rfl ?_)
    | (with_reducible refine ite_in (fun _ => ?_) (fun _ => ?_))
    | (with_reducible refine ⟨fun _ => ?_, fun _ => ?_⟩)
    | (with_reducible refine And.intro ?_ ?_)
    | (with_reducible intro _)
    | (with_reducible exact is_in _)
    | (simp -implicitDefEqProofs only [SD, SF, SL, e_nf, reduceCtorEq, implies_true, ↓reduceIte, Nat.reduceEqDiff, Nat.reduceAdd, Nat.reduceMul, Nat.reduceSub, Nat.reduceLeDiff, Nat.reduceLT, Int.reduceLT, Int.reduceLE, Int.reduceEq, Int.reduceToNat, Int.reduceAdd, Int.reduceSub, Int.reduceNeg, Int.reduceBEq, Int.reduceBNe, Nat.reduceBEq, Int.cast_ofNat_Int, decide_true, decide_false, ne_eq, eq_self_iff_true, beq_eq_false_iff_ne, bne_iff_ne, List.replicate, *]))))
  all_goals (first | (simp_all [nameD]; done) | (simp_all [nameD]; omega) | grind [nameD])
theorem spec21 (u d : List UInt8) : Spec Try.prog 21 [.fz (.str u), .fz (.str d)] (.fz (.bool (nameD u d))) := spec_str 0 u rfl (by kernel_rfl) (spec0_21 u d)
theorem spec23 (u d : List UInt8) : Spec Try.prog 23 [.fz (.str u), .fz (.str d)] (.fz (.int .i64 (if nameD u d = true then 0 else 3))) := spec_str 0 u rfl (by kernel_rfl) (spec0_23 u d)
def ac22 : AC := (.seq (.ops [⟨(some 3), none, (.box (.t 0))⟩, ⟨(some 6), none, (.mv (.c (.bool false)))⟩]) (.seq (.ops [⟨(some 7), none, (.fld 0 (.t 3))⟩, ⟨(some 8), none, (.ld false 1 (.t 7))⟩, ⟨(some 9), none, (.mv (.t 1))⟩, ⟨(some 10), none, (.bin .lss (.t 8) (.t 9))⟩, ⟨(some 11), none, (.mv (.t 10))⟩, ⟨(some 12), (some (11, false)), (.fld 0 (.t 3))⟩, ⟨(some 13), (some (11, false)), (.ld false 1 (.t 12))⟩, ⟨(some 14), (some (11, false)), (.mv (.t 1))⟩, ⟨(some 15), (some (11, false)), (.bin .eql (.t 13) (.t 14))⟩, ⟨(some 16), (some (11, false)), (.mv (.t 15))⟩, ⟨(some 17), (some (16, true)), (.fld 1 (.t 3))⟩, ⟨(some 18), (some (16, true)), (.ld false 1 (.t 17))⟩, ⟨(some 19), (some (16, true)), (.mv (.t 2))⟩, ⟨(some 20), (some (16, true)), (.bin .lss (.t 18) (.t 19))⟩, ⟨(some 21), (some (11, false)), (.pick (.t 16) (.t 20) (.c (.bool false)))⟩, ⟨(some 22), none, (.pick (.t 11) (.c (.bool true)) (.t 21))⟩, ⟨(some 6), none, (.mv (.t 22))⟩]) .ret))
theorem tr22 : Try.f22.body.bind (trCode Try.prog) = some (strip ac22) := by kernel_rfl
theorem spec22 (a : OT) (c d : List UInt8) : Spec Try.prog 22 [.fz (.agg (encOT a)), .fz (.str c), .fz (.str d)] (.fz (.bool (befB a.user a.dev c d))) := by
  refine spec_at (n := 20) (ars := [(.t 6)]) (ac := ac22) Try.func22 (by kernel_rfl) (by kernel_rfl) tr22 (by kernel_rfl) ?_
  unfold ac22
  iterate 30 (all_goals (try (first
    | (with_reducible refine ite_in (fun _ => ?_) (fun _ => ?_))
    | (with_reducible refine ⟨fun _ => ?_, fun _ => ?_⟩)
    | (with_reducible refine And.intro ?_ ?_)
    | (with_reducible intro _)
    | (with_reducible exact is_in _)
    | (simp -implicitDefEqProofs only [SD, SF, SL, e_nf, reduceCtorEq, implies_true, ↓reduceIte, Nat.reduceEqDiff, Nat.reduceAdd, Nat.reduceMul, Nat.reduceSub, Nat.reduceLeDiff, Nat.reduceLT, Int.reduceLT, Int.reduceLE, Int.reduceEq, Int.reduceToNat, Int.reduceAdd, Int.reduceSub, Int.reduceNeg, Int.reduceBEq, Int.reduceBNe, Nat.reduceBEq, Int.cast_ofNat_Int, decide_true, decide_false, ne_eq, eq_self_iff_true, beq_eq_false_iff_ne, bne_iff_ne, List.replicate, encOT, *]))))
  all_goals (first | (simp_all [befB]; done) | grind [befB])
def ac24 : AC := (.seq (.ops [⟨(some 3), none, (.box (.t 0))⟩, ⟨(some 6), none, (.mv (.c (.bool false)))⟩]) (.seq (.ops [⟨(some 7), none, (.fld 0 (.t 3))⟩, ⟨(some 8), none, (.ld false 1 (.t 7))⟩, ⟨(some 9), none, (.mv (.t 1))⟩, ⟨(some 10), none, (.bin .lss (.t 8) (.t 9))⟩, ⟨(some 11), none, (.mv (.t 10))⟩, ⟨(some 12), (some (11, false)), (.fld 0 (.t 3))⟩, ⟨(some 13), (some (11, false)), (.ld false 1 (.t 12))⟩, ⟨(some 14), (some (11, false)), (.mv (.t 1))⟩, ⟨(some 15), (some (11, false)), (.bin .eql (.t 13) (.t 14))⟩, ⟨(some 16), (some (11, false)), (.mv (.t 15))⟩, ⟨(some 17), (some (16, true)), (.fld 1 (.t 3))⟩, ⟨(some 18), (some (16, true)), (.ld false 1 (.t 17))⟩, ⟨(some 19), (some (16, true)), (.mv (.t 2))⟩, ⟨(some 20), (some (16, true)), (.bin .lss (.t 18) (.t 19))⟩, ⟨(some 21), (some (11, false)), (.pick (.t 16) (.t 20) (.c (.bool false)))⟩, ⟨(some 22), none, (.pick (.t 11) (.c (.bool true)) (.t 21))⟩, ⟨(some 6), none, (.mv (.t 22))⟩]) .ret))
theorem tr24 : Try.f24.body.bind (trCode Try.prog) = some (strip ac24) := by kernel_rfl
theorem spec24 (a : OT) (c d : List UInt8) : Spec Try.prog 24 [.fz (.agg (encOT a)), .fz (.str c), .fz (.str d)] (.fz (.bool (befB a.user a.dev c d))) := by
  refine spec_at (n := 20) (ars := [(.t 6)]) (ac := ac24) Try.func24 (by kernel_rfl) (by kernel_rfl) tr24 (by kernel_rfl) ?_
  unfold ac24
  iterate 30 (all_goals (try (first
    | (with_reducible refine ite_in (fun _ => ?_) (fun _ => ?_))
    | (with_reducible refine ⟨fun _ => ?_, fun _ => ?_⟩)
    | (with_reducible refine And.intro ?_ ?_)
    | (with_reducible intro _)
    | (with_reducible exact is_in _)
    | (simp -implicitDefEqProofs only [SD, SF, SL, e_nf, reduceCtorEq, implies_true, ↓reduceIte, Nat.reduceEqDiff, Nat.reduceAdd, Nat.reduceMul, Nat.reduceSub, Nat.reduceLeDiff, Nat.reduceLT, Int.reduceLT, Int.reduceLE, Int.reduceEq, Int.reduceToNat, Int.reduceAdd, Int.reduceSub, Int.reduceNeg, Int.reduceBEq, Int.reduceBNe, Nat.reduceBEq, Int.cast_ofNat_Int, decide_true, decide_false, ne_eq, eq_self_iff_true, beq_eq_false_iff_ne, bne_iff_ne, List.replicate, encOT, *]))))
  all_goals (first | (simp_all [befB]; done) | grind [befB])
def ac33 : AC := (.seq (.ops [⟨(some 3), none, (.box (.t 0))⟩, ⟨(some 4), none, (.mv (.c (.bool false)))⟩]) (.seq (.ops [⟨(some 5), none, (.fld 0 (.t 3))⟩, ⟨(some 6), none, (.ld false 1 (.t 5))⟩, ⟨(some 7), none, (.ld false 1 (.t 1))⟩, ⟨(some 8), none, (.bin .eql (.t 6) (.t 7))⟩, ⟨(some 9), none, (.mv (.t 8))⟩, ⟨(some 10), (some (9, true)), (.fld 1 (.t 3))⟩, ⟨(some 11), (some (9, true)), (.ld false 1 (.t 10))⟩, ⟨(some 12), (some (9, true)), (.ld false 1 (.t 2))⟩, ⟨(some 13), (some (9, true)), (.bin .eql (.t 11) (.t 12))⟩, ⟨(some 14), none, (.pick (.t 9) (.t 13) (.c (.bool false)))⟩, ⟨(some 4), none, (.mv (.t 14))⟩]) .ret))
theorem tr33 : Try.f33.body.bind (trCode Try.prog) = some (strip ac33) := by kernel_rfl
theorem spec33 (m : OT) (a b : List UInt8) : Spec Try.prog 33 [.fz (.agg (encOT m)), .fz (.pf [.str a]), .fz (.pf [.str b])] (.fz (.bool (decide (m.user = a ∧ m.dev = b)))) := by
  refine spec_at (n := 12) (ars := [(.t 4)]) (ac := ac33) Try.func33 (by kernel_rfl) (by kernel_rfl) tr33 (by kernel_rfl) ?_
  unfold ac33
  iterate 30 (all_goals (try (first
    | (with_reducible refine ite_in (fun _ => ?_) (fun _ => ?_))
    | (with_reducible refine ⟨fun _ => ?_, fun _ => ?_⟩)
    | (with_reducible refine And.intro ?_ ?_)
    | (with_reducible intro _)
    | (with_reducible exact is_in _)
    | (simp -implicitDefEqProofs only [SD, SF, SL, e_nf, reduceCtorEq, implies_true, ↓reduceIte, Nat.reduceEqDiff, Nat.reduceAdd, Nat.reduceMul, Nat.reduceSub, Nat.reduceLeDiff, Nat.reduceLT, Int.reduceLT, Int.reduceLE, Int.reduceEq, Int.reduceToNat, Int.reduceAdd, Int.reduceSub, Int.reduceNeg, Int.reduceBEq, Int.reduceBNe, Nat.reduceBEq, Int.cast_ofNat_Int, decide_true, decide_false, ne_eq, eq_self_iff_true, beq_eq_false_iff_ne, bne_iff_ne, List.replicate, encOT, *]))))
  all_goals (first | (simp_all; done) | grind)
def ac32 : AC := (.seq (.ops [⟨(some 4), none, (.mv (.c (.int .i64 0)))⟩]) (.seq (.seq (.ops [⟨(some 6), none, (.mv (.t 0))⟩, ⟨(some 7), none, (.len (.t 6))⟩, ⟨(some 8), none, (.mv (.c (.int .i64 0)))⟩]) (.block 0 (.loop (.seq (.ops [⟨(some 9), none, (.bin .lss (.t 8) (.t 7))⟩]) (.seq (.cond (.t 9) .skip (.exit 0)) (.seq (.block 1 (.seq (.ops [⟨(some 10), none, (.mv (.t 8))⟩, ⟨(some 5), none, (.mv (.t 10))⟩]) (.seq (.ops [⟨(some 11), none, (.mv (.t 1))⟩, ⟨(some 12), none, (.mv (.t 0))⟩, ⟨(some 13), none, (.mv (.t 5))⟩, ⟨(some 14), none, (.ix 4 (.t 12) (.t 13))⟩, ⟨(some 15), none, (.ld true 4 (.t 14))⟩, ⟨(some 16), none, (.callv (.t 11) [(.t 15)])⟩]) (.cond (.t 16) (.seq (.ops [⟨(some 17), none, (.mv (.t 5))⟩, ⟨(some 4), none, (.mv (.t 17))⟩]) .ret) .skip)))) (.ops [⟨(some 18), none, (.bin .add (.t 8) (.c (.int .i64 1)))⟩, ⟨(some 8), none, (.mv (.t 18))⟩]))))))) (.seq (.ops [⟨(some 4), none, (.mv (.c (.int .i64 (-1))))⟩]) .ret)))
theorem tr32 : Try.f32.body.bind (trCode Try.prog) = some (strip ac32) := by kernel_rfl
theorem spec32 (l : List OT) (u v : List UInt8) : Spec Try.prog 32 [.fz (.sl 4 (l.map encOT)), .fz (.fn 33 [.pf [.str u], .pf [.str v]])] (.fz (.int .i64 (placeL l u v 0))) := by
  refine spec_at (n := 17) (ars := [(.t 4)]) (ac := ac32) Try.func32 (by kernel_rfl) (by kernel_rfl) tr32 (by kernel_rfl) ?_
  unfold ac32
  simp -implicitDefEqProofs only [SD, SF, SL, e_nf, reduceCtorEq, implies_true, ↓reduceIte, Nat.reduceEqDiff, Nat.reduceAdd, Nat.reduceMul, Nat.reduceSub, Nat.reduceLeDiff, Nat.reduceLT, Int.reduceLT, Int.reduceLE, Int.reduceEq, Int.reduceToNat, Int.reduceAdd, Int.reduceSub, Int.reduceNeg, Int.reduceBEq, Int.reduceBNe, Nat.reduceBEq, Int.cast_ofNat_Int, decide_true, decide_false, ne_eq, eq_self_iff_true, beq_eq_false_iff_ne, bne_iff_ne, List.replicate]
  intro hl
  refine loop_q (X := List OT × List OT × Unit) (fun n x => l = x.1 ++ x.2.1 ∧ n = x.2.1.length ∧ (placeL l u v 0 = placeL x.2.1 u v x.1.length)) (fun x => [(8, .int .i64 x.1.length)]) (fun _ => []) [4, 5, 9, 10, 11, 12, 13, 14, 15, 16, 17, 18] []  (l).length ([], l, ()) ⟨rfl, rfl, by first | rfl | assumption | (simp_all [placeL]; done) | grind [placeL]⟩ ?_ ?_
  · simp -implicitDefEqProofs only [SD, SF, SL, e_nf, reduceCtorEq, implies_true, ↓reduceIte, Nat.reduceEqDiff, Nat.reduceAdd, Nat.reduceMul, Nat.reduceSub, Nat.reduceLeDiff, Nat.reduceLT, Int.reduceLT, Int.reduceLE, Int.reduceEq, Int.reduceToNat, Int.reduceAdd, Int.reduceSub, Int.reduceNeg, Int.reduceBEq, Int.reduceBNe, Nat.reduceBEq, Int.cast_ofNat_Int, decide_true, decide_false, ne_eq, eq_self_iff_true, beq_eq_false_iff_ne, bne_iff_ne, List.replicate, placeL] <;> simp
  · rintro n ⟨pre, rest, a⟩ ⟨he, rfl, hI⟩
    dsimp only at he hI
    cases rest with
    | nil =>
      obtain rfl : l = pre := by simpa using he
      clear he
      have hlt : ¬ (((l).length : Int) < ((l).length : Int)) := Int.lt_irrefl _
      iterate 30 (all_goals (try (first
        | ((with_reducible refine of_kSpec ?_); refine call_fz (spec33 x u v) rfl ?_)
        | (with_reducible refine ite_in (fun _ => ?_) (fun _ => ?_))
        | (with_reducible refine ⟨fun _ => ?_, fun _ => ?_⟩)
        | (with_reducible refine And.intro ?_ ?_)
        | (with_reducible intro _)
        | (with_reducible exact is_in _)
        | (simp -implicitDefEqProofs only [SD, SF, SL, e_nf, reduceCtorEq, implies_true, ↓reduceIte, Nat.reduceEqDiff, Nat.reduceAdd, Nat.reduceMul, Nat.reduceSub, Nat.reduceLeDiff, Nat.reduceLT, Int.reduceLT, Int.reduceLE, Int.reduceEq, Int.reduceToNat, Int.reduceAdd, Int.reduceSub, Int.reduceNeg, Int.reduceBEq, Int.reduceBNe, Nat.reduceBEq, Int.cast_ofNat_Int, decide_true, decide_false, ne_eq, eq_self_iff_true, beq_eq_false_iff_ne, bne_iff_ne, List.replicate, placeL, *]))))

    | cons x rest =>
      have hlt := cut_lt he
      have hx := cutD encOT he
      simp only [encOT] at hx
      have hw := wrap_len (n := pre.length) (m := (l).length) (cut_lt' he) (by simpa using hl)
      replace he := Hd.mk he
      have hx2 : (List.map encOT l).getD pre.length [] = encOT x := cutD encOT he.out
      iterate 30 (all_goals (try (first
        | ((with_reducible refine back_in rest.length [4, 5, 9, 10, 11, 12, 13, 14, 15, 16, 17, 18] [] (pre ++ [x], rest, a) ?_ ⟨?_, ?_, ?_⟩ ?_)
           · simp
           · exact cut_snoc he.out
           · rfl
           · first | rfl | assumption | (simp_all [placeL]; done) | grind [placeL]
           · first | (simp -implicitDefEqProofs only [SD, SF, SL, e_nf, reduceCtorEq, implies_true, ↓reduceIte, Nat.reduceEqDiff, Nat.reduceAdd, Nat.reduceMul, Nat.reduceSub, Nat.reduceLeDiff, Nat.reduceLT, Int.reduceLT, Int.reduceLE, Int.reduceEq, Int.reduceToNat, Int.reduceAdd, Int.reduceSub, Int.reduceNeg, Int.reduceBEq, Int.reduceBNe, Nat.reduceBEq, Int.cast_ofNat_Int, decide_true, decide_false, ne_eq, eq_self_iff_true, beq_eq_false_iff_ne, bne_iff_ne, List.replicate, placeL] <;> simp <;> done) | (simp -implicitDefEqProofs only [SD, SF, SL, e_nf, reduceCtorEq, implies_true, ↓reduceIte, Nat.reduceEqDiff, Nat.reduceAdd, Nat.reduceMul, Nat.reduceSub, Nat.reduceLeDiff, Nat.reduceLT, Int.reduceLT, Int.reduceLE, Int.reduceEq, Int.reduceToNat, Int.reduceAdd, Int.reduceSub, Int.reduceNeg, Int.reduceBEq, Int.reduceBNe, Nat.reduceBEq, Int.cast_ofNat_Int, decide_true, decide_false, ne_eq, eq_self_iff_true, beq_eq_false_iff_ne, bne_iff_ne, List.replicate, placeL, *] <;> simp_all <;> done))
        | ((with_reducible refine of_kSpec ?_); refine call_fz (spec33 x u v) rfl ?_)
        | (with_reducible refine ite_in (fun _ => ?_) (fun _ => ?_))
        | (with_reducible refine ⟨fun _ => ?_, fun _ => ?_⟩)
        | (with_reducible refine And.intro ?_ ?_)
        | (with_reducible intro _)
        | (with_reducible exact is_in _)
        | (simp -implicitDefEqProofs only [SD, SF, SL, e_nf, reduceCtorEq, implies_true, ↓reduceIte, Nat.reduceEqDiff, Nat.reduceAdd, Nat.reduceMul, Nat.reduceSub, Nat.reduceLeDiff, Nat.reduceLT, Int.reduceLT, Int.reduceLE, Int.reduceEq, Int.reduceToNat, Int.reduceAdd, Int.reduceSub, Int.reduceNeg, Int.reduceBEq, Int.reduceBNe, Nat.reduceBEq, Int.cast_ofNat_Int, decide_true, decide_false, ne_eq, eq_self_iff_true, beq_eq_false_iff_ne, bne_iff_ne, List.replicate, placeL, *]))))
def ac26 : AC := (.seq (.ops [⟨(some 4), none, (.box (.t 1))⟩, ⟨(some 5), none, (.box (.t 2))⟩, ⟨(some 6), none, (.mv (.c (.int .i64 0)))⟩]) (.seq (.ops [⟨(some 7), none, (.mv (.t 0))⟩, ⟨(some 8), none, (.mkfn 33 [(.t 4), (.t 5)])⟩, ⟨(some 9), none, (.call false 32 [(.t 7), (.t 8)])⟩, ⟨(some 6), none, (.mv (.t 9))⟩]) .ret))
theorem tr26 : Try.f26.body.bind (trCode Try.prog) = some (strip ac26) := by kernel_rfl
theorem spec26 (l : List OT) (u v : List UInt8) : Spec Try.prog 26 [.fz (.sl 4 (l.map encOT)), .fz (.str u), .fz (.str v)] (.fz (.int .i64 (placeL l u v 0))) := by
  refine spec_at (n := 7) (ars := [(.t 6)]) (ac := ac26) Try.func26 (by kernel_rfl) (by kernel_rfl) tr26 (by kernel_rfl) ?_
  unfold ac26
  iterate 30 (all_goals (try (first
    | ((with_reducible refine of_kSpec ?_); refine call_fz (spec32 l u v) rfl ?_)
    | (with_reducible refine ite_in (fun _ => ?_) (fun _ => ?_))
    | (with_reducible refine ⟨fun _ => ?_, fun _ => ?_⟩)
    | (with_reducible refine And.intro ?_ ?_)
    | (with_reducible intro _)
    | (with_reducible exact is_in _)
    | (simp -implicitDefEqProofs only [SD, SF, SL, e_nf, reduceCtorEq, implies_true, ↓reduceIte, Nat.reduceEqDiff, Nat.reduceAdd, Nat.reduceMul, Nat.reduceSub, Nat.reduceLeDiff, Nat.reduceLT, Int.reduceLT, Int.reduceLE, Int.reduceEq, Int.reduceToNat, Int.reduceAdd, Int.reduceSub, Int.reduceNeg, Int.reduceBEq, Int.reduceBNe, Nat.reduceBEq, Int.cast_ofNat_Int, decide_true, decide_false, ne_eq, eq_self_iff_true, beq_eq_false_iff_ne, bne_iff_ne, List.replicate, *]))))
def ac28 : AC := (.seq (.ops [⟨(some 6), none, (.mv (.c (.int .i64 0)))⟩]) (.seq (.seq (.ops [⟨(some 7), none, (.mv (.c (.int .i64 0)))⟩]) (.block 0 (.loop (.seq (.seq (.ops [⟨(some 8), none, (.mv (.t 7))⟩, ⟨(some 9), none, (.mv (.t 0))⟩, ⟨(some 10), none, (.len (.t 9))⟩, ⟨(some 11), none, (.bin .lss (.t 8) (.t 10))⟩]) (.cond (.t 11) .skip (.exit 0))) (.seq (.block 1 (.seq (.ops [⟨(some 14), none, (.mv (.t 0))⟩, ⟨(some 15), none, (.mv (.t 7))⟩, ⟨(some 16), none, (.ix 4 (.t 14) (.t 15))⟩, ⟨(some 17), none, (.fld 0 (.t 16))⟩, ⟨(some 18), none, (.ld false 1 (.t 17))⟩, ⟨(some 19), none, (.mv (.t 1))⟩, ⟨(some 20), none, (.bin .eql (.t 18) (.t 19))⟩, ⟨(some 21), none, (.mv (.t 20))⟩, ⟨(some 22), (some (21, true)), (.mv (.t 0))⟩, ⟨(some 23), (some (21, true)), (.mv (.t 7))⟩, ⟨(some 24), (some (21, true)), (.ix 4 (.t 22) (.t 23))⟩, ⟨(some 25), (some (21, true)), (.fld 1 (.t 24))⟩, ⟨(some 26), (some (21, true)), (.ld false 1 (.t 25))⟩, ⟨(some 27), (some (21, true)), (.mv (.t 2))⟩, ⟨(some 28), (some (21, true)), (.bin .eql (.t 26) (.t 27))⟩, ⟨(some 29), none, (.pick (.t 21) (.t 28) (.c (.bool false)))⟩]) (.cond (.t 29) (.seq (.ops [⟨(some 30), none, (.mv (.t 7))⟩, ⟨(some 6), none, (.mv (.t 30))⟩]) .ret) .skip))) (.ops [⟨(some 12), none, (.mv (.t 7))⟩, ⟨(some 13), none, (.bin .add (.t 12) (.c (.int .i64 1)))⟩, ⟨(some 7), none, (.mv (.t 13))⟩])))))) (.seq (.ops [⟨(some 6), none, (.mv (.c (.int .i64 (-1))))⟩]) .ret)))
theorem tr28 : Try.f28.body.bind (trCode Try.prog) = some (strip ac28) := by kernel_rfl
theorem spec28 (l : List OT) (u v : List UInt8) : Spec Try.prog 28 [.fz (.sl 4 (l.map encOT)), .fz (.str u), .fz (.str v)] (.fz (.int .i64 (placeL l u v 0))) := by
  refine spec_at (n := 28) (ars := [(.t 6)]) (ac := ac28) Try.func28 (by kernel_rfl) (by kernel_rfl) tr28 (by kernel_rfl) ?_
  unfold ac28
  simp -implicitDefEqProofs only [SD, SF, SL, e_nf, reduceCtorEq, implies_true, ↓reduceIte, Nat.reduceEqDiff, Nat.reduceAdd, Nat.reduceMul, Nat.reduceSub, Nat.reduceLeDiff, Nat.reduceLT, Int.reduceLT, Int.reduceLE, Int.reduceEq, Int.reduceToNat, Int.reduceAdd, Int.reduceSub, Int.reduceNeg, Int.reduceBEq, Int.reduceBNe, Nat.reduceBEq, Int.cast_ofNat_Int, decide_true, decide_false, ne_eq, eq_self_iff_true, beq_eq_false_iff_ne, bne_iff_ne, List.replicate]
  refine loop_q (X := List OT × List OT × Unit) (fun n x => l = x.1 ++ x.2.1 ∧ n = x.2.1.length ∧ (placeL l u v 0 = placeL x.2.1 u v x.1.length)) (fun x => [(7, .int .i64 x.1.length)]) (fun _ => []) [6, 8, 9, 10, 11, 12, 13, 14, 15, 16, 17, 18, 19, 20, 21, 22, 23, 24, 25, 26, 27, 28, 29, 30] []  (l).length ([], l, ()) ⟨rfl, rfl, by first | rfl | assumption | (simp_all [placeL]; done) | grind [placeL]⟩ ?_ ?_
  · simp -implicitDefEqProofs only [SD, SF, SL, e_nf, reduceCtorEq, implies_true, ↓reduceIte, Nat.reduceEqDiff, Nat.reduceAdd, Nat.reduceMul, Nat.reduceSub, Nat.reduceLeDiff, Nat.reduceLT, Int.reduceLT, Int.reduceLE, Int.reduceEq, Int.reduceToNat, Int.reduceAdd, Int.reduceSub, Int.reduceNeg, Int.reduceBEq, Int.reduceBNe, Nat.reduceBEq, Int.cast_ofNat_Int, decide_true, decide_false, ne_eq, eq_self_iff_true, beq_eq_false_iff_ne, bne_iff_ne, List.replicate, placeL] <;> simp
  · rintro n ⟨pre, rest, a⟩ ⟨he, rfl, hI⟩
    dsimp only at he hI
    cases rest with
    | nil =>
      obtain rfl : l = pre := by simpa using he
      clear he
      have hlt : ¬ (((l).length : Int) < ((l).length : Int)) := Int.lt_irrefl _
      iterate 30 (all_goals (try (first
        | (with_reducible refine ite_in (fun _ => ?_) (fun _ => ?_))
        | (with_reducible refine ⟨fun _ => ?_, fun _ => ?_⟩)
        | (with_reducible refine And.intro ?_ ?_)
        | (with_reducible intro _)
        | (with_reducible exact is_in _)
        | (simp -implicitDefEqProofs only [SD, SF, SL, e_nf, reduceCtorEq, implies_true, ↓reduceIte, Nat.reduceEqDiff, Nat.reduceAdd, Nat.reduceMul, Nat.reduceSub, Nat.reduceLeDiff, Nat.reduceLT, Int.reduceLT, Int.reduceLE, Int.reduceEq, Int.reduceToNat, Int.reduceAdd, Int.reduceSub, Int.reduceNeg, Int.reduceBEq, Int.reduceBNe, Nat.reduceBEq, Int.cast_ofNat_Int, decide_true, decide_false, ne_eq, eq_self_iff_true, beq_eq_false_iff_ne, bne_iff_ne, List.replicate, placeL, *]))))

    | cons x rest =>
      have hlt := cut_lt he
      have hx := cutD encOT he
      simp only [encOT] at hx
      simp -implicitDefEqProofs only [SD, SF, SL, e_nf, reduceCtorEq, implies_true, ↓reduceIte, Nat.reduceEqDiff, Nat.reduceAdd, Nat.reduceMul, Nat.reduceSub, Nat.reduceLeDiff, Nat.reduceLT, Int.reduceLT, Int.reduceLE, Int.reduceEq, Int.reduceToNat, Int.reduceAdd, Int.reduceSub, Int.reduceNeg, Int.reduceBEq, Int.reduceBNe, Nat.reduceBEq, Int.cast_ofNat_Int, decide_true, decide_false, ne_eq, eq_self_iff_true, beq_eq_false_iff_ne, bne_iff_ne, List.replicate, placeL, hlt]
      intro hl
      have hw := wrap_len (n := pre.length) (m := (l).length) (cut_lt' he) (by simpa using hl)
      replace he := Hd.mk he
      iterate 30 (all_goals (try (first
        | ((with_reducible refine back_in rest.length [6, 8, 9, 10, 11, 12, 13, 14, 15, 16, 17, 18, 19, 20, 21, 22, 23, 24, 25, 26, 27, 28, 29, 30] [] (pre ++ [x], rest, a) ?_ ⟨?_, ?_, ?_⟩ ?_)
           · simp
           · exact cut_snoc he.out
           · rfl
           · first | rfl | assumption | (simp_all [placeL]; done) | grind [placeL]
           · first | (simp -implicitDefEqProofs only [SD, SF, SL, e_nf, reduceCtorEq, implies_true, ↓reduceIte, Nat.reduceEqDiff, Nat.reduceAdd, Nat.reduceMul, Nat.reduceSub, Nat.reduceLeDiff, Nat.reduceLT, Int.reduceLT, Int.reduceLE, Int.reduceEq, Int.reduceToNat, Int.reduceAdd, Int.reduceSub, Int.reduceNeg, Int.reduceBEq, Int.reduceBNe, Nat.reduceBEq, Int.cast_ofNat_Int, decide_true, decide_false, ne_eq, eq_self_iff_true, beq_eq_false_iff_ne, bne_iff_ne, List.replicate, placeL] <;> simp <;> done) | (simp -implicitDefEqProofs only [SD, SF, SL, e_nf, reduceCtorEq, implies_true, ↓reduceIte, Nat.reduceEqDiff, Nat.reduceAdd, Nat.reduceMul, Nat.reduceSub, Nat.reduceLeDiff, Nat.reduceLT, Int.reduceLT, Int.reduceLE, Int.reduceEq, Int.reduceToNat, Int.reduceAdd, Int.reduceSub, Int.reduceNeg, Int.reduceBEq, Int.reduceBNe, Nat.reduceBEq, Int.cast_ofNat_Int, decide_true, decide_false, ne_eq, eq_self_iff_true, beq_eq_false_iff_ne, bne_iff_ne, List.replicate, placeL, *] <;> simp_all <;> done))
        | (with_reducible refine ite_in (fun _ => ?_) (fun _ => ?_))
        | (with_reducible refine ⟨fun _ => ?_, fun _ => ?_⟩)
        | (with_reducible refine And.intro ?_ ?_)
        | (with_reducible intro _)
        | (with_reducible exact is_in _)
        | (simp -implicitDefEqProofs only [SD, SF, SL, e_nf, reduceCtorEq, implies_true, ↓reduceIte, Nat.reduceEqDiff, Nat.reduceAdd, Nat.reduceMul, Nat.reduceSub, Nat.reduceLeDiff, Nat.reduceLT, Int.reduceLT, Int.reduceLE, Int.reduceEq, Int.reduceToNat, Int.reduceAdd, Int.reduceSub, Int.reduceNeg, Int.reduceBEq, Int.reduceBNe, Nat.reduceBEq, Int.cast_ofNat_Int, decide_true, decide_false, ne_eq, eq_self_iff_true, beq_eq_false_iff_ne, bne_iff_ne, List.replicate, placeL, *]))))

end Go.Proofs.Ytcjlkbffmggekaa.E
