/-
  OnQ: walks of functions of the program at data level.
-/
import Derived.Test.YtcjlkbffmggekaaProg
import Derived.Test.YtcjlkbffmggekaaEngZ
import Derived.Test.YtcjlkbffmggekaaOnP
import Derived.Test.YtcjlkbffmggekaaIn
import Derived.KernelRfl
set_option linter.unusedVariables false
set_option linter.unusedSimpArgs false
namespace Go.Proofs.Ytcjlkbffmggekaa.E
open Go
set_option maxHeartbeats 4000000
set_option maxRecDepth 100000
set_option linter.unusedSimpArgs false
set_option linter.unusedVariables false
attribute [local congr] c_wp c_ops c_op c_opS c_run c_runS c_dt c_seq c_blk c_loop c_S c_put c_bind c_mv c_pick c_nt c_ng c_bin c_binI c_binS c_beq c_B c_eqa c_hd c_cells c_blkK c_box c_vec c_mp c_nck c_mks c_appn c_mkm c_mput c_mlk c_mrm c_take c_ld c_ldF c_cellsK c_st c_fld c_fldv c_ix c_ixp c_ixv c_ixs c_sub c_subs c_len c_lens c_src c_dst c_ow c_app c_ext c_mm c_conv c_str c_isn c_fill c_rows c_boxo c_frz c_frzO c_frzA c_frzV c_spec c_specO c_opsP c_opP c_runP c_specP c_Z c_qretP c_fz c_fn c_gv c_cond c_res1 c_resL c_ret c_qret c_ite c_unr c_nx c_bk c_cut c_is
attribute [local irreducible] dwp
def findO : List OT → List UInt8 → List UInt8 → Option OT
  | [], _, _ => none
  | m :: r, u, v => if m.user = u ∧ m.dev = v then some m else findO r u v
def updL (f : OT → OT) : List OT → List UInt8 → List UInt8 → List OT
  | [], _, _ => []
  | m :: r, u, v => if m.user = u ∧ m.dev = v then f m :: r else m :: updL f r u v
theorem place_cases : ∀ (l : List OT) (u v : List UInt8) (i : Nat), (placeL l u v i = -1 ∧ findO l u v = none) ∨ ∃ pre x rest, l = pre ++ x :: rest ∧ placeL l u v i = ((i + pre.length : Nat) : Int) ∧ findO l u v = some x ∧ (∀ f, updL f l u v = pre ++ f x :: rest) ∧ x.user = u ∧ x.dev = v
  | [], _, _, _ => .inl ⟨rfl, rfl⟩
  | m :: r, u, v, i => by
    unfold placeL findO
    by_cases h : m.user = u ∧ m.dev = v
    · rw [if_pos h, if_pos h]
      exact .inr ⟨[], m, r, rfl, by simp, rfl, fun f => by unfold updL; rw [if_pos h]; rfl, h.1, h.2⟩
    · rw [if_neg h, if_neg h]
      rcases place_cases r u v (i + 1) with h1 | ⟨pre, x, rest, h1, h2, h3, h4, h5, h6⟩
      · exact .inl h1
      · exact .inr ⟨m :: pre, x, rest, by rw [h1]; rfl, by rw [h2]; simp; omega, h3, fun f => by unfold updL; rw [if_neg h, h4 f]; rfl, h5, h6⟩
def addO (n : Int) (x : OT) : OT := ⟨x.user, x.dev, IntKind.i64.wrap (x.next + n), IntKind.i64.wrap (x.left + n)⟩
def decO (x : OT) : OT := ⟨x.user, x.dev, x.next, IntKind.i64.wrap (x.left - 1)⟩
def fullB (x : OT) (n : Int) : Bool := decide (200 < IntKind.i64.wrap (x.left + n) ∨ 1000000000000 < IntKind.i64.wrap (x.next + n))
def upR (l : List OT) (u d : List UInt8) (n : Int) : List OT × Int := if chkL l ≠ 0 then ([], chkL l) else if nameD u d = false then ([], 3) else if n < 1 ∨ 100 < n then ([], 2) else match findO l u d with
  | none => (insL l ⟨u, d, n, n⟩, 0)
  | some x => if fullB x n = true then ([], 29) else (updL (addO n) l u d, 0)
def clR (l : List OT) (u d : List UInt8) : List OT × Int × Int := if chkL l ≠ 0 then ([], 0, chkL l) else match findO l u d with
  | none => ([], 0, 5)
  | some x => if x.left = 0 then ([], 0, 5) else (updL decO l u d, IntKind.i64.wrap (x.next - x.left), 0)
def lowL (l : List OT) (n : Int) : List OT := l.filter fun x => decide (x.left < n)
theorem find_left : ∀ (l : List OT) (u d : List UInt8), (match findO l u d with | none => 0 | some x => x.left) = leftL l u d
  | [], _, _ => rfl
  | x :: l, u, d => by
    have ih := find_left l u d
    unfold leftL at *
    rw [List.find?_cons]
    unfold findO
    by_cases h : x.user = u ∧ x.dev = d
    · rw [if_pos h, show isD u d x = true from decide_eq_true h]
    · rw [if_neg h, show isD u d x = false from decide_eq_false h]
      exact ih
theorem set_at {l pre : List OT} {x : OT} {rest : List OT} (he : l = pre ++ x :: rest) (y : OT) : (pre ++ y :: rest).map encOT = (l.map encOT).set pre.length (encOT y) := by
  subst he
  simp
theorem set_facts {l pre : List OT} {x : OT} {rest : List OT} (he : l = pre ++ x :: rest) : (∀ r, ((l.map encOT).set pre.length r).getD pre.length [] = r) ∧ (∀ r r', ((l.map encOT).set pre.length r).set pre.length r' = (l.map encOT).set pre.length r') ∧ (∀ r, ((l.map encOT).set pre.length r).length = l.length) := by
  have hl := cut_lt' he
  refine ⟨fun r => ?_, fun r r' => by simp, fun r => by simp⟩
  simp [List.getD, hl]
theorem tw_at_end {l : List OT} {m : OT} (h : l.all (bm m) = true) : (insL l m).map encOT = l.map encOT ++ [encOT m] := by
  rw [insL, (tw_end h).1, (tw_end h).2, List.map_append]
  rfl
theorem tw_at {l pre : List OT} {x : OT} {rest : List OT} {m : OT} (he : l = pre ++ x :: rest) (h : pre.all (bm m) = true) (hx : bm m x = false) : (insL l m).map encOT = pre.map encOT ++ encOT m :: (l.map encOT).drop pre.length := by
  subst he
  rw [insL, (tw_mid hx h).1, (tw_mid hx h).2]
  simp only [List.map_append, List.map_cons]
  rw [List.drop_left' (by simp)]
def ac8 : AC := (.seq (.ops [⟨(some 2), none, (.mv (.c (.bool false)))⟩]) (.seq (.ops [⟨(some 3), none, (.mv (.t 0))⟩, ⟨(some 4), none, (.len (.t 3))⟩, ⟨(some 5), none, (.bin .gtr (.t 4) (.c (.int .i64 50)))⟩, ⟨(some 2), none, (.mv (.t 5))⟩]) .ret))
theorem tr8 : Try.f8.body.bind (trCode Try.prog) = some (strip ac8) := by kernel_rfl
theorem spec8 (l : List OT) : Spec Try.prog 8 [.fz (.sl 4 (l.map encOT))] (.fz (.bool (decide (50 < l.length)))) := by
  refine spec_at (n := 5) (ars := [(.t 2)]) (ac := ac8) Try.func8 (by kernel_rfl) (by kernel_rfl) tr8 (by kernel_rfl) ?_
  unfold ac8
  iterate 30 (all_goals (try (first
    | (with_reducible refine ite_in (fun _ => ?_) (fun _ => ?_))
    | (with_reducible refine ⟨fun _ => ?_, fun _ => ?_⟩)
    | (with_reducible refine And.intro ?_ ?_)
    | (with_reducible intro _)
    | (with_reducible exact is_in _)
    | (simp -implicitDefEqProofs only [SD, SF, SL, e_nf, reduceCtorEq, implies_true, ↓reduceIte, Nat.reduceEqDiff, Nat.reduceAdd, Nat.reduceMul, Nat.reduceSub, Nat.reduceLeDiff, Nat.reduceLT, Int.reduceLT, Int.reduceLE, Int.reduceEq, Int.reduceToNat, Int.reduceAdd, Int.reduceSub, Int.reduceNeg, Int.reduceBEq, Int.reduceBNe, Nat.reduceBEq, Int.cast_ofNat_Int, decide_true, decide_false, ne_eq, eq_self_iff_true, beq_eq_false_iff_ne, bne_iff_ne, List.replicate, *]))))
  all_goals (first | (simp; omega) | (simp; done))
def ac25 : AC := (.seq (.ops [⟨(some 2), none, (.mv (.c .e0))⟩]) (.seq (.seq (.ops [⟨(some 3), none, (.mv (.t 0))⟩, ⟨(some 4), none, (.isn false (.t 3))⟩]) (.cond (.t 4) (.seq (.ops [⟨(some 2), none, (.mv (.c .e0))⟩]) .ret) .skip)) (.seq (.ops [⟨(some 5), none, (.buildSl 45 4 0 [(.str []), (.str []), (.int .i64 0), (.int .i64 0)] [])⟩, ⟨(some 6), none, (.mv (.t 0))⟩, ⟨(some 7), none, (.app 45 4 48 (.t 5) (.t 6))⟩, ⟨(some 2), none, (.mv (.t 7))⟩]) .ret)))
theorem tr25 : Try.f25.body.bind (trCode Try.prog) = some (strip ac25) := by kernel_rfl
theorem spec25 (l : List OT) (hb : l.length ≤ 1000) : Spec Try.prog 25 [.fz (.sl 4 (l.map encOT))] (.own 45 4 (l.map encOT)) := by
  refine spec_at (n := 7) (ars := [(.t 2)]) (ac := ac25) Try.func25 (by kernel_rfl) (by kernel_rfl) tr25 (by kernel_rfl) ?_
  unfold ac25
  have h1 : l.length ≤ maxLen := by simp only [maxLen]; omega
  have h2 : l.length * 48 ≤ 140737488355328 := by omega
  iterate 30 (all_goals (try (first
    | (with_reducible refine ite_in (fun _ => ?_) (fun _ => ?_))
    | (with_reducible refine ⟨fun _ => ?_, fun _ => ?_⟩)
    | (with_reducible refine And.intro ?_ ?_)
    | (with_reducible intro _)
    | (with_reducible exact is_in _)
    | (simp -implicitDefEqProofs only [SD, SF, SL, e_nf, reduceCtorEq, implies_true, ↓reduceIte, Nat.reduceEqDiff, Nat.reduceAdd, Nat.reduceMul, Nat.reduceSub, Nat.reduceLeDiff, Nat.reduceLT, Int.reduceLT, Int.reduceLE, Int.reduceEq, Int.reduceToNat, Int.reduceAdd, Int.reduceSub, Int.reduceNeg, Int.reduceBEq, Int.reduceBNe, Nat.reduceBEq, Int.cast_ofNat_Int, decide_true, decide_false, ne_eq, eq_self_iff_true, beq_eq_false_iff_ne, bne_iff_ne, List.replicate, *]))))
  all_goals (simp_all)
def ac14 : AC := (.seq (.ops [⟨(some 4), none, (.mv (.c (.bool false)))⟩]) (.seq (.seq (.ops [⟨(some 6), none, (.mv (.t 0))⟩, ⟨(some 7), none, (.len (.t 6))⟩, ⟨(some 8), none, (.mv (.t 1))⟩, ⟨(some 9), none, (.len (.t 8))⟩, ⟨(some 10), none, (.bin .neq (.t 7) (.t 9))⟩]) (.cond (.t 10) (.seq (.ops [⟨(some 4), none, (.mv (.c (.bool false)))⟩]) .ret) .skip)) (.seq (.seq (.ops [⟨(some 5), none, (.mv (.c (.int .i64 0)))⟩]) (.block 0 (.loop (.seq (.seq (.ops [⟨(some 11), none, (.mv (.t 5))⟩, ⟨(some 12), none, (.mv (.t 0))⟩, ⟨(some 13), none, (.len (.t 12))⟩, ⟨(some 14), none, (.bin .lss (.t 11) (.t 13))⟩]) (.cond (.t 14) .skip (.exit 0))) (.seq (.block 1 (.seq (.draw (.q false ⟨(some 17), none, (.mv (.t 0))⟩ (.q false ⟨(some 18), none, (.mv (.t 5))⟩ (.q false ⟨(some 19), none, (.ix 4 (.t 17) (.t 18))⟩ (.q false ⟨(some 20), none, (.fld 0 (.t 19))⟩ (.q false ⟨(some 21), none, (.ld false 1 (.t 20))⟩ (.q false ⟨(some 22), none, (.mv (.t 1))⟩ (.q false ⟨(some 23), none, (.mv (.t 5))⟩ (.q false ⟨(some 24), none, (.ix 4 (.t 22) (.t 23))⟩ (.q false ⟨(some 25), none, (.fld 0 (.t 24))⟩ (.q false ⟨(some 26), none, (.ld false 1 (.t 25))⟩ (.q false ⟨(some 27), none, (.bin .neq (.t 21) (.t 26))⟩ (.q false ⟨(some 28), none, (.mv (.t 27))⟩ (.q false ⟨(some 29), (some (28, false)), (.mv (.t 0))⟩ (.q false ⟨(some 30), (some (28, false)), (.mv (.t 5))⟩ (.q false ⟨(some 31), (some (28, false)), (.ix 4 (.t 29) (.t 30))⟩ (.q false ⟨(some 32), (some (28, false)), (.fld 1 (.t 31))⟩ (.q false ⟨(some 33), (some (28, false)), (.ld false 1 (.t 32))⟩ (.q false ⟨(some 34), (some (28, false)), (.mv (.t 1))⟩ (.q false ⟨(some 35), (some (28, false)), (.mv (.t 5))⟩ (.q false ⟨(some 36), (some (28, false)), (.ix 4 (.t 34) (.t 35))⟩ (.q false ⟨(some 37), (some (28, false)), (.fld 1 (.t 36))⟩ (.q false ⟨(some 38), (some (28, false)), (.ld false 1 (.t 37))⟩ (.q false ⟨(some 39), (some (28, false)), (.bin .neq (.t 33) (.t 38))⟩ (.q false ⟨(some 40), none, (.pick (.t 28) (.c (.bool true)) (.t 39))⟩ (.q false ⟨(some 41), none, (.mv (.t 40))⟩ (.q false ⟨(some 42), (some (41, false)), (.mv (.t 0))⟩ (.q false ⟨(some 43), (some (41, false)), (.mv (.t 5))⟩ (.q false ⟨(some 44), (some (41, false)), (.ix 4 (.t 42) (.t 43))⟩ (.q false ⟨(some 45), (some (41, false)), (.fld 2 (.t 44))⟩ (.q false ⟨(some 46), (some (41, false)), (.ld false 1 (.t 45))⟩ (.q false ⟨(some 47), (some (41, false)), (.mv (.t 1))⟩ (.q false ⟨(some 48), (some (41, false)), (.mv (.t 5))⟩ (.q false ⟨(some 49), (some (41, false)), (.ix 4 (.t 47) (.t 48))⟩ (.q false ⟨(some 50), (some (41, false)), (.fld 2 (.t 49))⟩ (.q false ⟨(some 51), (some (41, false)), (.ld false 1 (.t 50))⟩ (.q false ⟨(some 52), (some (41, false)), (.bin .neq (.t 46) (.t 51))⟩ (.q false ⟨(some 53), none, (.pick (.t 41) (.c (.bool true)) (.t 52))⟩ (.q false ⟨(some 54), none, (.mv (.t 53))⟩ (.q false ⟨(some 55), (some (54, false)), (.mv (.t 0))⟩ (.q false ⟨(some 56), (some (54, false)), (.mv (.t 5))⟩ (.q false ⟨(some 57), (some (54, false)), (.ix 4 (.t 55) (.t 56))⟩ (.q false ⟨(some 58), (some (54, false)), (.fld 3 (.t 57))⟩ (.q false ⟨(some 59), (some (54, false)), (.ld false 1 (.t 58))⟩ (.q false ⟨(some 60), (some (54, false)), (.mv (.t 1))⟩ (.q false ⟨(some 61), (some (54, false)), (.mv (.t 5))⟩ (.q false ⟨(some 62), (some (54, false)), (.ix 4 (.t 60) (.t 61))⟩ (.q false ⟨(some 63), (some (54, false)), (.fld 3 (.t 62))⟩ (.q false ⟨(some 64), (some (54, false)), (.ld false 1 (.t 63))⟩ (.q false ⟨(some 65), (some (54, false)), (.bin .neq (.t 59) (.t 64))⟩ (.q false ⟨(some 66), none, (.pick (.t 54) (.c (.bool true)) (.t 65))⟩ .nil))))))))))))))))))))))))))))))))))))))))))))))))))) (.cond (.t 66) (.seq (.ops [⟨(some 4), none, (.mv (.c (.bool false)))⟩]) .ret) .skip))) (.ops [⟨(some 15), none, (.mv (.t 5))⟩, ⟨(some 16), none, (.bin .add (.t 15) (.c (.int .i64 1)))⟩, ⟨(some 5), none, (.mv (.t 16))⟩])))))) (.seq (.ops [⟨(some 4), none, (.mv (.c (.bool true)))⟩]) .ret))))
theorem tr14 : Try.f14.body.bind (trCode Try.prog) = some (strip ac14) := by kernel_rfl
theorem spec14 (a b : List OT) : Spec Try.prog 14 [.fz (.sl 4 (a.map encOT)), .fz (.sl 4 (b.map encOT))] (.fz (.bool (decide (a = b)))) := by
  refine spec_at (n := 65) (ars := [(.t 4)]) (ac := ac14) Try.func14 (by kernel_rfl) (by kernel_rfl) tr14 (by kernel_rfl) ?_
  unfold ac14
  simp -implicitDefEqProofs only [SD, SF, SL, e_nf, reduceCtorEq, implies_true, ↓reduceIte, Nat.reduceEqDiff, Nat.reduceAdd, Nat.reduceMul, Nat.reduceSub, Nat.reduceLeDiff, Nat.reduceLT, Int.reduceLT, Int.reduceLE, Int.reduceEq, Int.reduceToNat, Int.reduceAdd, Int.reduceSub, Int.reduceNeg, Int.reduceBEq, Int.reduceBNe, Nat.reduceBEq, Int.cast_ofNat_Int, decide_true, decide_false, ne_eq, eq_self_iff_true, beq_eq_false_iff_ne, bne_iff_ne, List.replicate, len_cast]
  intro _ _
  by_cases h : a.length = b.length
  · obtain ⟨z, rfl, rfl⟩ := zip_of_len h
    rw [eqz_dec]
    simp -implicitDefEqProofs only [SD, SF, SL, e_nf, reduceCtorEq, implies_true, ↓reduceIte, Nat.reduceEqDiff, Nat.reduceAdd, Nat.reduceMul, Nat.reduceSub, Nat.reduceLeDiff, Nat.reduceLT, Int.reduceLT, Int.reduceLE, Int.reduceEq, Int.reduceToNat, Int.reduceAdd, Int.reduceSub, Int.reduceNeg, Int.reduceBEq, Int.reduceBNe, Nat.reduceBEq, Int.cast_ofNat_Int, decide_true, decide_false, ne_eq, eq_self_iff_true, beq_eq_false_iff_ne, bne_iff_ne, List.replicate, len_cast, h]
    refine loop_q (X := List (OT × OT) × List (OT × OT) × Unit) (fun n x => z = x.1 ++ x.2.1 ∧ n = x.2.1.length ∧ (eqz x.1)) (fun x => [(5, .int .i64 x.1.length)]) (fun _ => []) [4, 11, 12, 13, 14, 15, 16, 17, 18, 19, 20, 21, 22, 23, 24, 25, 26, 27, 28, 29, 30, 31, 32, 33, 34, 35, 36, 37, 38, 39, 40, 41, 42, 43, 44, 45, 46, 47, 48, 49, 50, 51, 52, 53, 54, 55, 56, 57, 58, 59, 60, 61, 62, 63, 64, 65, 66] []  (z).length ([], z, ()) ⟨rfl, rfl, by first | (simp_all [eqz_end, eqz_mid, eqz_nil, OT_eq]; done) | grind [eqz_end, eqz_mid, eqz_nil, OT_eq]⟩ ?_ ?_
    · simp -implicitDefEqProofs only [SD, SF, SL, e_nf, reduceCtorEq, implies_true, ↓reduceIte, Nat.reduceEqDiff, Nat.reduceAdd, Nat.reduceMul, Nat.reduceSub, Nat.reduceLeDiff, Nat.reduceLT, Int.reduceLT, Int.reduceLE, Int.reduceEq, Int.reduceToNat, Int.reduceAdd, Int.reduceSub, Int.reduceNeg, Int.reduceBEq, Int.reduceBNe, Nat.reduceBEq, Int.cast_ofNat_Int, decide_true, decide_false, ne_eq, eq_self_iff_true, beq_eq_false_iff_ne, bne_iff_ne, List.replicate, eqz_end, eqz_mid, eqz_nil] <;> simp
    · rintro n ⟨pre, rest, a⟩ ⟨he, rfl, hI⟩
      dsimp only at he hI
      cases rest with
      | nil =>
        obtain rfl : z = pre := by simpa using he
        clear he
        have hlt : ¬ (((z).length : Int) < ((z).length : Int)) := Int.lt_irrefl _
        iterate 30 (all_goals (try (first
          | (with_reducible refine ite_in (fun _ => ?_) (fun _ => ?_))
          | (with_reducible refine ⟨fun _ => ?_, fun _ => ?_⟩)
          | (with_reducible refine And.intro ?_ ?_)
          | (with_reducible intro _)
          | (with_reducible exact is_in _)
          | (simp -implicitDefEqProofs only [SD, SF, SL, e_nf, reduceCtorEq, implies_true, ↓reduceIte, Nat.reduceEqDiff, Nat.reduceAdd, Nat.reduceMul, Nat.reduceSub, Nat.reduceLeDiff, Nat.reduceLT, Int.reduceLT, Int.reduceLE, Int.reduceEq, Int.reduceToNat, Int.reduceAdd, Int.reduceSub, Int.reduceNeg, Int.reduceBEq, Int.reduceBNe, Nat.reduceBEq, Int.cast_ofNat_Int, decide_true, decide_false, ne_eq, eq_self_iff_true, beq_eq_false_iff_ne, bne_iff_ne, List.replicate, eqz_end, eqz_mid, eqz_nil, *]))))
        all_goals (first | (simp_all [eqz_end, eqz_mid, eqz_nil, OT_eq]; done) | grind [eqz_end, eqz_mid, eqz_nil, OT_eq])

      | cons x rest =>
        have hlt := cut_lt he
        have hx := cutD1 encOT he
        have hy := cutD2 encOT he
        have hez := eqz_mid pre x rest
        rw [← he] at hez
        simp only [encOT] at hx hy
        simp -implicitDefEqProofs only [SD, SF, SL, e_nf, reduceCtorEq, implies_true, ↓reduceIte, Nat.reduceEqDiff, Nat.reduceAdd, Nat.reduceMul, Nat.reduceSub, Nat.reduceLeDiff, Nat.reduceLT, Int.reduceLT, Int.reduceLE, Int.reduceEq, Int.reduceToNat, Int.reduceAdd, Int.reduceSub, Int.reduceNeg, Int.reduceBEq, Int.reduceBNe, Nat.reduceBEq, Int.cast_ofNat_Int, decide_true, decide_false, ne_eq, eq_self_iff_true, beq_eq_false_iff_ne, bne_iff_ne, List.replicate, eqz_end, eqz_mid, eqz_nil, hlt]
        intro hl
        have hw := wrap_len (n := pre.length) (m := (z).length) (cut_lt' he) (by simpa using hl)
        replace he := Hd.mk he
        iterate 30 (all_goals (try (first
          | ((with_reducible refine back_in rest.length [4, 11, 12, 13, 14, 15, 16, 17, 18, 19, 20, 21, 22, 23, 24, 25, 26, 27, 28, 29, 30, 31, 32, 33, 34, 35, 36, 37, 38, 39, 40, 41, 42, 43, 44, 45, 46, 47, 48, 49, 50, 51, 52, 53, 54, 55, 56, 57, 58, 59, 60, 61, 62, 63, 64, 65, 66] [] (pre ++ [x], rest, a) ?_ ⟨?_, ?_, ?_⟩ ?_)
             · simp
             · exact cut_snoc he.out
             · rfl
             · first | (simp_all [eqz_end, eqz_mid, eqz_nil, OT_eq]; done) | grind [eqz_end, eqz_mid, eqz_nil, OT_eq]
             · first | (simp -implicitDefEqProofs only [SD, SF, SL, e_nf, reduceCtorEq, implies_true, ↓reduceIte, Nat.reduceEqDiff, Nat.reduceAdd, Nat.reduceMul, Nat.reduceSub, Nat.reduceLeDiff, Nat.reduceLT, Int.reduceLT, Int.reduceLE, Int.reduceEq, Int.reduceToNat, Int.reduceAdd, Int.reduceSub, Int.reduceNeg, Int.reduceBEq, Int.reduceBNe, Nat.reduceBEq, Int.cast_ofNat_Int, decide_true, decide_false, ne_eq, eq_self_iff_true, beq_eq_false_iff_ne, bne_iff_ne, List.replicate, eqz_end, eqz_mid, eqz_nil] <;> simp <;> done) | (simp -implicitDefEqProofs only [SD, SF, SL, e_nf, reduceCtorEq, implies_true, ↓reduceIte, Nat.reduceEqDiff, Nat.reduceAdd, Nat.reduceMul, Nat.reduceSub, Nat.reduceLeDiff, Nat.reduceLT, Int.reduceLT, Int.reduceLE, Int.reduceEq, Int.reduceToNat, Int.reduceAdd, Int.reduceSub, Int.reduceNeg, Int.reduceBEq, Int.reduceBNe, Nat.reduceBEq, Int.cast_ofNat_Int, decide_true, decide_false, ne_eq, eq_self_iff_true, beq_eq_false_iff_ne, bne_iff_ne, List.replicate, eqz_end, eqz_mid, eqz_nil, *] <;> simp_all <;> done))
          | (with_reducible refine ite_in (fun _ => ?_) (fun _ => ?_))
          | (with_reducible refine ⟨fun _ => ?_, fun _ => ?_⟩)
          | (with_reducible refine And.intro ?_ ?_)
          | (with_reducible intro _)
          | (with_reducible exact is_in _)
          | (simp -implicitDefEqProofs only [SD, SF, SL, e_nf, reduceCtorEq, implies_true, ↓reduceIte, Nat.reduceEqDiff, Nat.reduceAdd, Nat.reduceMul, Nat.reduceSub, Nat.reduceLeDiff, Nat.reduceLT, Int.reduceLT, Int.reduceLE, Int.reduceEq, Int.reduceToNat, Int.reduceAdd, Int.reduceSub, Int.reduceNeg, Int.reduceBEq, Int.reduceBNe, Nat.reduceBEq, Int.cast_ofNat_Int, decide_true, decide_false, ne_eq, eq_self_iff_true, beq_eq_false_iff_ne, bne_iff_ne, List.replicate, eqz_end, eqz_mid, eqz_nil, *]))))
        all_goals (first | (simp_all [eqz_end, eqz_mid, eqz_nil, OT_eq]; done) | grind [eqz_end, eqz_mid, eqz_nil, OT_eq])
  · have hne : a ≠ b := fun e => h (by rw [e])
    iterate 30 (all_goals (try (first
      | (with_reducible refine ite_in (fun _ => ?_) (fun _ => ?_))
      | (with_reducible refine ⟨fun _ => ?_, fun _ => ?_⟩)
      | (with_reducible refine And.intro ?_ ?_)
      | (with_reducible intro _)
      | (with_reducible exact is_in _)
      | (simp -implicitDefEqProofs only [SD, SF, SL, e_nf, reduceCtorEq, implies_true, ↓reduceIte, Nat.reduceEqDiff, Nat.reduceAdd, Nat.reduceMul, Nat.reduceSub, Nat.reduceLeDiff, Nat.reduceLT, Int.reduceLT, Int.reduceLE, Int.reduceEq, Int.reduceToNat, Int.reduceAdd, Int.reduceSub, Int.reduceNeg, Int.reduceBEq, Int.reduceBNe, Nat.reduceBEq, Int.cast_ofNat_Int, decide_true, decide_false, ne_eq, eq_self_iff_true, beq_eq_false_iff_ne, bne_iff_ne, List.replicate, len_cast, *]))))
    all_goals (simp_all)
def ac18 : AC := (.seq (.ops [⟨(some 6), none, (.mv (.c (.int .i64 0)))⟩]) (.seq (.ops [⟨(some 8), none, (.mv (.t 0))⟩, ⟨(some 9), none, (.mv (.t 1))⟩, ⟨(some 10), none, (.mv (.t 2))⟩, ⟨(some 11), none, (.call false 28 [(.t 8), (.t 9), (.t 10)])⟩, ⟨(some 7), none, (.mv (.t 11))⟩]) (.seq (.seq (.ops [⟨(some 12), none, (.mv (.t 7))⟩, ⟨(some 13), none, (.bin .lss (.t 12) (.c (.int .i64 0)))⟩]) (.cond (.t 13) (.seq (.ops [⟨(some 6), none, (.mv (.c (.int .i64 0)))⟩]) .ret) .skip)) (.seq (.ops [⟨(some 14), none, (.mv (.t 0))⟩, ⟨(some 15), none, (.mv (.t 7))⟩, ⟨(some 16), none, (.ix 4 (.t 14) (.t 15))⟩, ⟨(some 17), none, (.fld 3 (.t 16))⟩, ⟨(some 18), none, (.ld false 1 (.t 17))⟩, ⟨(some 6), none, (.mv (.t 18))⟩]) .ret))))
theorem tr18 : Try.f18.body.bind (trCode Try.prog) = some (strip ac18) := by kernel_rfl
theorem spec18 (l : List OT) (u v : List UInt8) : Spec Try.prog 18 [.fz (.sl 4 (l.map encOT)), .fz (.str u), .fz (.str v)] (.fz (.int .i64 (leftL l u v))) := by
  refine spec_at (n := 16) (ars := [(.t 6)]) (ac := ac18) Try.func18 (by kernel_rfl) (by kernel_rfl) tr18 (by kernel_rfl) ?_
  unfold ac18
  rcases place_cases l u v 0 with ⟨hp, hf⟩ | ⟨pre, x, rest, he, hp, hf, hu, hsv, hnm⟩
  · have hfl := find_left l u v
    rw [hf] at hfl
    iterate 30 (all_goals (try (first
      | ((with_reducible refine of_kSpec ?_); refine call_fz (spec28 l u v) rfl ?_)
      | (with_reducible refine ite_in (fun _ => ?_) (fun _ => ?_))
      | (with_reducible refine ⟨fun _ => ?_, fun _ => ?_⟩)
      | (with_reducible refine And.intro ?_ ?_)
      | (with_reducible intro _)
      | (with_reducible exact is_in _)
      | (simp -implicitDefEqProofs only [SD, SF, SL, e_nf, reduceCtorEq, implies_true, ↓reduceIte, Nat.reduceEqDiff, Nat.reduceAdd, Nat.reduceMul, Nat.reduceSub, Nat.reduceLeDiff, Nat.reduceLT, Int.reduceLT, Int.reduceLE, Int.reduceEq, Int.reduceToNat, Int.reduceAdd, Int.reduceSub, Int.reduceNeg, Int.reduceBEq, Int.reduceBNe, Nat.reduceBEq, Int.cast_ofNat_Int, decide_true, decide_false, ne_eq, eq_self_iff_true, beq_eq_false_iff_ne, bne_iff_ne, List.replicate, encOT, *]))))
    all_goals (first | (simp_all; done) | omega | (simp_all; omega))
  · rw [Nat.zero_add] at hp
    have hfl := find_left l u v
    rw [hf] at hfl
    have hx := cutD encOT he
    simp only [encOT] at hx
    have hlt := cut_lt he
    have hlt2 := cut_lt' he
    have hge : ¬ ((pre.length : Int) < 0) := by omega
    obtain ⟨hg1, hs1, hl1⟩ := set_facts he
    replace he := Hd.mk he
    replace hsv := Hd.mk hsv
    replace hnm := Hd.mk hnm
    iterate 30 (all_goals (try (first
      | ((with_reducible refine of_kSpec ?_); refine call_fz (spec28 l u v) rfl ?_)
      | (with_reducible refine ite_in (fun _ => ?_) (fun _ => ?_))
      | (with_reducible refine ⟨fun _ => ?_, fun _ => ?_⟩)
      | (with_reducible refine And.intro ?_ ?_)
      | (with_reducible intro _)
      | (with_reducible exact is_in _)
      | (simp -implicitDefEqProofs only [SD, SF, SL, e_nf, reduceCtorEq, implies_true, ↓reduceIte, Nat.reduceEqDiff, Nat.reduceAdd, Nat.reduceMul, Nat.reduceSub, Nat.reduceLeDiff, Nat.reduceLT, Int.reduceLT, Int.reduceLE, Int.reduceEq, Int.reduceToNat, Int.reduceAdd, Int.reduceSub, Int.reduceNeg, Int.reduceBEq, Int.reduceBNe, Nat.reduceBEq, Int.cast_ofNat_Int, decide_true, decide_false, ne_eq, eq_self_iff_true, beq_eq_false_iff_ne, bne_iff_ne, List.replicate, encOT, *]))))
    all_goals (first | (simp_all; done) | omega | (simp_all; omega))


end Go.Proofs.Ytcjlkbffmggekaa.E
