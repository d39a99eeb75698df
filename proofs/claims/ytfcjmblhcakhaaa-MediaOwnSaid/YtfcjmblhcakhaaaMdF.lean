/-
  MdF: walks of functions of the program at data level.
-/
import Derived.Test.YtfcjmblhcakhaaaProg
import Derived.Test.YtfcjmblhcakhaaaEngZ
import Derived.Test.YtfcjmblhcakhaaaMdE
import Derived.KernelRfl
set_option linter.unusedVariables false
set_option linter.unusedSimpArgs false
namespace Go.Proofs.Ytfcjmblhcakhaaa.E
open Go
set_option maxHeartbeats 4000000
set_option maxRecDepth 100000
set_option linter.unusedSimpArgs false
set_option linter.unusedVariables false
attribute [local congr] c_wp c_ops c_op c_opS c_run c_runS c_dt c_seq c_blk c_loop c_S c_put c_bind c_mv c_pick c_nt c_ng c_bin c_binI c_binS c_beq c_B c_eqa c_hd c_cells c_blkK c_box c_vec c_mp c_mkm c_mput c_mlk c_mrm c_take c_ld c_ldF c_cellsK c_st c_fld c_fldv c_ix c_ixp c_ixv c_ixs c_sub c_subs c_len c_lens c_src c_dst c_ow c_app c_ext c_mm c_conv c_str c_isn c_fill c_rows c_boxo c_frz c_frzO c_frzA c_frzV c_spec c_specO c_opsP c_opP c_runP c_specP c_Z c_qretP c_fz c_fn c_gv c_cond c_res1 c_resL c_ret c_qret c_ite c_unr c_nx c_bk c_cut c_is
attribute [local irreducible] dwp

def findM : List Md → List UInt8 → List UInt8 → Option Md
  | [], _, _ => none
  | m :: r, u, v => if m.server = u ∧ m.name = v then some m else findM r u v
def updL (f : Md → Md) : List Md → List UInt8 → List UInt8 → List Md
  | [], _, _ => []
  | m :: r, u, v => if m.server = u ∧ m.name = v then f m :: r else m :: updL f r u v
theorem place_cases : ∀ (l : List Md) (u v : List UInt8) (i : Nat), (placeL l u v i = -1 ∧ findM l u v = none) ∨ ∃ pre x rest, l = pre ++ x :: rest ∧ placeL l u v i = ((i + pre.length : Nat) : Int) ∧ findM l u v = some x ∧ (∀ f, updL f l u v = pre ++ f x :: rest) ∧ x.server = u ∧ x.name = v
  | [], _, _, _ => .inl ⟨rfl, rfl⟩
  | m :: r, u, v, i => by
    unfold placeL findM
    by_cases h : m.server = u ∧ m.name = v
    · rw [if_pos h, if_pos h]
      exact .inr ⟨[], m, r, rfl, by simp, rfl, fun f => by unfold updL; rw [if_pos h]; rfl, h.1, h.2⟩
    · rw [if_neg h, if_neg h]
      rcases place_cases r u v (i + 1) with h1 | ⟨pre, x, rest, h1, h2, h3, h4, h5, h6⟩
      · exact .inl h1
      · exact .inr ⟨m :: pre, x, rest, by rw [h1]; rfl, by rw [h2]; simp; omega, h3, fun f => by unfold updL; rw [if_neg h, h4 f]; rfl, h5, h6⟩
def zeroMd : Md := ⟨[], [], 0, 0, 0⟩
def getR (l : List Md) (u v : List UInt8) : Md × Bool := match findM l u v with
  | none => (zeroMd, false)
  | some x => (x, true)
def totF : Int → List Md → Int
  | acc, [] => acc
  | acc, m :: r => totF (if m.st = 1 then IntKind.i64.wrap (acc + m.size) else acc) r
def totR (l : List Md) : Int := if chkL l ≠ 0 then 0 else totF 0 l
def toQ (m : Md) : Md := { m with st := 2 }
def toP (size now : Int) (m : Md) : Md := ⟨m.server, m.name, if m.st ≠ 1 then size else m.size, now, 1⟩
def quarR (l : List Md) (u v : List UInt8) : List Md := if chkL l ≠ 0 ∨ namedB u v = false then l else match findM l u v with
  | none => insL l ⟨u, v, 0, 0, 2⟩
  | some _ => updL toQ l u v
def addR (l : List Md) (m : Md) : List Md × Int := if chkL l ≠ 0 then ([], chkL l) else if validR m ≠ 0 then ([], validR m) else match findM l m.server m.name with
  | none => (insL l m, 0)
  | some _ => ([], 4)
def badN (size now : Int) : Prop := size < 0 ∨ 1000000000000 < size ∨ now < 0 ∨ 1000000000 < now
instance (size now : Int) : Decidable (badN size now) := by unfold badN; infer_instance
def fetchR (l : List Md) (own u v : List UInt8) (size now : Int) : List Md × Int := if chkL l ≠ 0 then ([], chkL l) else if namedB u v = false then ([], 3) else if badN size now then ([], 2) else match findM l u v with
  | none => if u = own then ([], 5) else (insL l ⟨u, v, size, now, 1⟩, 0)
  | some x => if x.st = 2 then ([], 27) else (updL (toP size now) l u v, 0)
theorem Md_eq (a b : Md) : (a = b) = (a.server = b.server ∧ a.name = b.name ∧ a.size = b.size ∧ a.time = b.time ∧ a.st = b.st) := by cases a; cases b; simp
theorem set_at {l pre : List Md} {x : Md} {rest : List Md} (he : l = pre ++ x :: rest) (y : Md) : (pre ++ y :: rest).map encMd = (l.map encMd).set pre.length (encMd y) := by
  subst he
  simp
theorem set_facts {l pre : List Md} {x : Md} {rest : List Md} (he : l = pre ++ x :: rest) : (∀ r, ((l.map encMd).set pre.length r).getD pre.length [] = r) ∧ (∀ r r', ((l.map encMd).set pre.length r).set pre.length r' = (l.map encMd).set pre.length r') ∧ (∀ r, ((l.map encMd).set pre.length r).length = l.length) := by
  have hl := cut_lt' he
  refine ⟨fun r => ?_, fun r r' => by simp, fun r => by simp⟩
  simp [List.getD, hl]
def ac17 : AC := (.seq (.ops [⟨(some 2), none, (.box (.t 0))⟩, ⟨(some 3), none, (.box (.t 1))⟩, ⟨(some 4), none, (.mv (.c (.bool false)))⟩]) (.seq (.ops [⟨(some 5), none, (.fld 0 (.t 2))⟩, ⟨(some 6), none, (.ld false 1 (.t 5))⟩, ⟨(some 7), none, (.fld 0 (.t 3))⟩, ⟨(some 8), none, (.ld false 1 (.t 7))⟩, ⟨(some 9), none, (.bin .eql (.t 6) (.t 8))⟩, ⟨(some 10), none, (.mv (.t 9))⟩, ⟨(some 11), (some (10, true)), (.fld 1 (.t 2))⟩, ⟨(some 12), (some (10, true)), (.ld false 1 (.t 11))⟩, ⟨(some 13), (some (10, true)), (.fld 1 (.t 3))⟩, ⟨(some 14), (some (10, true)), (.ld false 1 (.t 13))⟩, ⟨(some 15), (some (10, true)), (.bin .eql (.t 12) (.t 14))⟩, ⟨(some 16), none, (.pick (.t 10) (.t 15) (.c (.bool false)))⟩, ⟨(some 17), none, (.mv (.t 16))⟩, ⟨(some 18), (some (17, true)), (.fld 2 (.t 2))⟩, ⟨(some 19), (some (17, true)), (.ld false 1 (.t 18))⟩, ⟨(some 20), (some (17, true)), (.fld 2 (.t 3))⟩, ⟨(some 21), (some (17, true)), (.ld false 1 (.t 20))⟩, ⟨(some 22), (some (17, true)), (.bin .eql (.t 19) (.t 21))⟩, ⟨(some 23), none, (.pick (.t 17) (.t 22) (.c (.bool false)))⟩, ⟨(some 24), none, (.mv (.t 23))⟩, ⟨(some 25), (some (24, true)), (.fld 3 (.t 2))⟩, ⟨(some 26), (some (24, true)), (.ld false 1 (.t 25))⟩, ⟨(some 27), (some (24, true)), (.fld 3 (.t 3))⟩, ⟨(some 28), (some (24, true)), (.ld false 1 (.t 27))⟩, ⟨(some 29), (some (24, true)), (.bin .eql (.t 26) (.t 28))⟩, ⟨(some 30), none, (.pick (.t 24) (.t 29) (.c (.bool false)))⟩, ⟨(some 31), none, (.mv (.t 30))⟩, ⟨(some 32), (some (31, true)), (.fld 4 (.t 2))⟩, ⟨(some 33), (some (31, true)), (.ld false 1 (.t 32))⟩, ⟨(some 34), (some (31, true)), (.fld 4 (.t 3))⟩, ⟨(some 35), (some (31, true)), (.ld false 1 (.t 34))⟩, ⟨(some 36), (some (31, true)), (.bin .eql (.t 33) (.t 35))⟩, ⟨(some 37), none, (.pick (.t 31) (.t 36) (.c (.bool false)))⟩, ⟨(some 4), none, (.mv (.t 37))⟩]) .ret))
theorem tr17 : Try.f17.body.bind (trCode Try.prog) = some (strip ac17) := by kernel_rfl
theorem spec17 (a b : Md) : Spec Try.prog 17 [.fz (.agg (encMd a)), .fz (.agg (encMd b))] (.fz (.bool (decide (a = b)))) := by
  refine spec_at (n := 36) (ars := [(.t 4)]) (ac := ac17) Try.func17 (by kernel_rfl) (by kernel_rfl) tr17 (by kernel_rfl) ?_
  unfold ac17
  iterate 30 (all_goals (try (first
    | (with_reducible refine ite_in (fun _ => ?_) (fun _ => ?_))
    | (with_reducible refine ⟨fun _ => ?_, fun _ => ?_⟩)
    | (with_reducible refine And.intro ?_ ?_)
    | (with_reducible intro _)
    | (with_reducible exact is_in _)
    | (simp -implicitDefEqProofs only [SD, SF, SL, e_nf, reduceCtorEq, implies_true, ↓reduceIte, Nat.reduceEqDiff, Nat.reduceAdd, Nat.reduceMul, Nat.reduceSub, Nat.reduceLeDiff, Nat.reduceLT, Int.reduceLT, Int.reduceLE, Int.reduceEq, Int.reduceToNat, Int.reduceAdd, Int.reduceSub, Int.reduceNeg, Int.reduceBEq, Int.reduceBNe, Nat.reduceBEq, Int.cast_ofNat_Int, decide_true, decide_false, ne_eq, eq_self_iff_true, beq_eq_false_iff_ne, bne_iff_ne, List.replicate, encMd, *]))))
  all_goals (first | (simp_all [Md_eq]; done) | grind [Md_eq])
def ac20 : AC := (.seq (.ops [⟨(some 4), none, (.mv (.c (.bool false)))⟩]) (.seq (.seq (.ops [⟨(some 6), none, (.mv (.t 0))⟩, ⟨(some 7), none, (.len (.t 6))⟩, ⟨(some 8), none, (.mv (.t 1))⟩, ⟨(some 9), none, (.len (.t 8))⟩, ⟨(some 10), none, (.bin .neq (.t 7) (.t 9))⟩]) (.cond (.t 10) (.seq (.ops [⟨(some 4), none, (.mv (.c (.bool false)))⟩]) .ret) .skip)) (.seq (.seq (.ops [⟨(some 5), none, (.mv (.c (.int .i64 0)))⟩]) (.block 0 (.loop (.seq (.seq (.ops [⟨(some 11), none, (.mv (.t 5))⟩, ⟨(some 12), none, (.mv (.t 0))⟩, ⟨(some 13), none, (.len (.t 12))⟩, ⟨(some 14), none, (.bin .lss (.t 11) (.t 13))⟩]) (.cond (.t 14) .skip (.exit 0))) (.seq (.block 1 (.seq (.draw (.q false ⟨(some 17), none, (.mv (.t 0))⟩ (.q false ⟨(some 18), none, (.mv (.t 5))⟩ (.q false ⟨(some 19), none, (.ix 5 (.t 17) (.t 18))⟩ (.q false ⟨(some 20), none, (.ld true 5 (.t 19))⟩ (.q false ⟨(some 21), none, (.mv (.t 1))⟩ (.q false ⟨(some 22), none, (.mv (.t 5))⟩ (.q false ⟨(some 23), none, (.ix 5 (.t 21) (.t 22))⟩ (.q false ⟨(some 24), none, (.ld true 5 (.t 23))⟩ (.op ⟨(some 25), none, (.call false 17 [(.t 20), (.t 24)])⟩ (.q false ⟨(some 26), none, (.nt (.t 25))⟩ .nil))))))))))) (.cond (.t 26) (.seq (.ops [⟨(some 4), none, (.mv (.c (.bool false)))⟩]) .ret) .skip))) (.ops [⟨(some 15), none, (.mv (.t 5))⟩, ⟨(some 16), none, (.bin .add (.t 15) (.c (.int .i64 1)))⟩, ⟨(some 5), none, (.mv (.t 16))⟩])))))) (.seq (.ops [⟨(some 4), none, (.mv (.c (.bool true)))⟩]) .ret))))
theorem tr20 : Try.f20.body.bind (trCode Try.prog) = some (strip ac20) := by kernel_rfl
theorem spec20 (a b : List Md) : Spec Try.prog 20 [.fz (.sl 5 (a.map encMd)), .fz (.sl 5 (b.map encMd))] (.fz (.bool (decide (a = b)))) := by
  refine spec_at (n := 25) (ars := [(.t 4)]) (ac := ac20) Try.func20 (by kernel_rfl) (by kernel_rfl) tr20 (by kernel_rfl) ?_
  unfold ac20
  simp -implicitDefEqProofs only [SD, SF, SL, e_nf, reduceCtorEq, implies_true, ↓reduceIte, Nat.reduceEqDiff, Nat.reduceAdd, Nat.reduceMul, Nat.reduceSub, Nat.reduceLeDiff, Nat.reduceLT, Int.reduceLT, Int.reduceLE, Int.reduceEq, Int.reduceToNat, Int.reduceAdd, Int.reduceSub, Int.reduceNeg, Int.reduceBEq, Int.reduceBNe, Nat.reduceBEq, Int.cast_ofNat_Int, decide_true, decide_false, ne_eq, eq_self_iff_true, beq_eq_false_iff_ne, bne_iff_ne, List.replicate, len_cast]
  intro _ _
  by_cases h : a.length = b.length
  · obtain ⟨z, rfl, rfl⟩ := zip_of_len h
    rw [eqz_dec]
    simp -implicitDefEqProofs only [SD, SF, SL, e_nf, reduceCtorEq, implies_true, ↓reduceIte, Nat.reduceEqDiff, Nat.reduceAdd, Nat.reduceMul, Nat.reduceSub, Nat.reduceLeDiff, Nat.reduceLT, Int.reduceLT, Int.reduceLE, Int.reduceEq, Int.reduceToNat, Int.reduceAdd, Int.reduceSub, Int.reduceNeg, Int.reduceBEq, Int.reduceBNe, Nat.reduceBEq, Int.cast_ofNat_Int, decide_true, decide_false, ne_eq, eq_self_iff_true, beq_eq_false_iff_ne, bne_iff_ne, List.replicate, len_cast, h]
    refine loop_q (X := List (Md × Md) × List (Md × Md) × Unit) (fun n x => z = x.1 ++ x.2.1 ∧ n = x.2.1.length ∧ (eqz x.1)) (fun x => [(5, .int .i64 x.1.length)]) (fun _ => []) [4, 11, 12, 13, 14, 15, 16, 17, 18, 19, 20, 21, 22, 23, 24, 25, 26] []  (z).length ([], z, ()) ⟨rfl, rfl, by first | rfl | assumption | (simp_all [eqz_end, eqz_mid, eqz_nil]; done) | grind [eqz_end, eqz_mid, eqz_nil]⟩ ?_ ?_
    · simp -implicitDefEqProofs only [SD, SF, SL, e_nf, reduceCtorEq, implies_true, ↓reduceIte, Nat.reduceEqDiff, Nat.reduceAdd, Nat.reduceMul, Nat.reduceSub, Nat.reduceLeDiff, Nat.reduceLT, Int.reduceLT, Int.reduceLE, Int.reduceEq, Int.reduceToNat, Int.reduceAdd, Int.reduceSub, Int.reduceNeg, Int.reduceBEq, Int.reduceBNe, Nat.reduceBEq, Int.cast_ofNat_Int, decide_true, decide_false, ne_eq, eq_self_iff_true, beq_eq_false_iff_ne, bne_iff_ne, List.replicate, eqz_end, eqz_mid, eqz_nil] <;> simp
    · rintro n ⟨pre, rest, a⟩ ⟨he, rfl, hI⟩
      dsimp only at he hI
      cases rest with
      | nil =>
        obtain rfl : z = pre := by simpa using he
        clear he
        have hlt : ¬ (((z).length : Int) < ((z).length : Int)) := Int.lt_irrefl _
        iterate 30 (all_goals (try (first
          | ((with_reducible refine of_kSpec ?_)
             refine call_sub (ds' := [.agg (encMd x.1), .agg (encMd x.2)]) (spec17 x.1 x.2) rfl ?_ ?_
             · simp -implicitDefEqProofs only [SD, SF, SL, e_nf, reduceCtorEq, implies_true, ↓reduceIte, Nat.reduceEqDiff, Nat.reduceAdd, Nat.reduceMul, Nat.reduceSub, Nat.reduceLeDiff, Nat.reduceLT, Int.reduceLT, Int.reduceLE, Int.reduceEq, Int.reduceToNat, Int.reduceAdd, Int.reduceSub, Int.reduceNeg, Int.reduceBEq, Int.reduceBNe, Nat.reduceBEq, Int.cast_ofNat_Int, decide_true, decide_false, ne_eq, eq_self_iff_true, beq_eq_false_iff_ne, bne_iff_ne, List.replicate, encMd, *]
               done)
          | (with_reducible refine ite_in (fun _ => ?_) (fun _ => ?_))
          | (with_reducible refine ⟨fun _ => ?_, fun _ => ?_⟩)
          | (with_reducible refine And.intro ?_ ?_)
          | (with_reducible intro _)
          | (with_reducible exact is_in _)
          | (simp -implicitDefEqProofs only [SD, SF, SL, e_nf, reduceCtorEq, implies_true, ↓reduceIte, Nat.reduceEqDiff, Nat.reduceAdd, Nat.reduceMul, Nat.reduceSub, Nat.reduceLeDiff, Nat.reduceLT, Int.reduceLT, Int.reduceLE, Int.reduceEq, Int.reduceToNat, Int.reduceAdd, Int.reduceSub, Int.reduceNeg, Int.reduceBEq, Int.reduceBNe, Nat.reduceBEq, Int.cast_ofNat_Int, decide_true, decide_false, ne_eq, eq_self_iff_true, beq_eq_false_iff_ne, bne_iff_ne, List.replicate, eqz_end, eqz_mid, eqz_nil, *]))))
        all_goals (simp_all [eqz_end, eqz_mid, eqz_nil])

      | cons x rest =>
        have hlt := cut_lt he
        have hx := cutD1 encMd he
        have hy := cutD2 encMd he
        have hez := eqz_mid pre x rest
        rw [← he] at hez
        simp only [encMd] at hx hy
        simp -implicitDefEqProofs only [SD, SF, SL, e_nf, reduceCtorEq, implies_true, ↓reduceIte, Nat.reduceEqDiff, Nat.reduceAdd, Nat.reduceMul, Nat.reduceSub, Nat.reduceLeDiff, Nat.reduceLT, Int.reduceLT, Int.reduceLE, Int.reduceEq, Int.reduceToNat, Int.reduceAdd, Int.reduceSub, Int.reduceNeg, Int.reduceBEq, Int.reduceBNe, Nat.reduceBEq, Int.cast_ofNat_Int, decide_true, decide_false, ne_eq, eq_self_iff_true, beq_eq_false_iff_ne, bne_iff_ne, List.replicate, eqz_end, eqz_mid, eqz_nil, hlt]
        intro hl
        have hw := wrap_len (n := pre.length) (m := (z).length) (cut_lt' he) (by simpa using hl)
        replace he := Hd.mk he
        iterate 30 (all_goals (try (first
          | ((with_reducible refine back_in rest.length [4, 11, 12, 13, 14, 15, 16, 17, 18, 19, 20, 21, 22, 23, 24, 25, 26] [] (pre ++ [x], rest, a) ?_ ⟨?_, ?_, ?_⟩ ?_)
             · simp
             · exact cut_snoc he.out
             · rfl
             · first | rfl | assumption | (simp_all [eqz_end, eqz_mid, eqz_nil]; done) | grind [eqz_end, eqz_mid, eqz_nil]
             · first | (simp -implicitDefEqProofs only [SD, SF, SL, e_nf, reduceCtorEq, implies_true, ↓reduceIte, Nat.reduceEqDiff, Nat.reduceAdd, Nat.reduceMul, Nat.reduceSub, Nat.reduceLeDiff, Nat.reduceLT, Int.reduceLT, Int.reduceLE, Int.reduceEq, Int.reduceToNat, Int.reduceAdd, Int.reduceSub, Int.reduceNeg, Int.reduceBEq, Int.reduceBNe, Nat.reduceBEq, Int.cast_ofNat_Int, decide_true, decide_false, ne_eq, eq_self_iff_true, beq_eq_false_iff_ne, bne_iff_ne, List.replicate, eqz_end, eqz_mid, eqz_nil] <;> simp <;> done) | (simp -implicitDefEqProofs only [SD, SF, SL, e_nf, reduceCtorEq, implies_true, ↓reduceIte, Nat.reduceEqDiff, Nat.reduceAdd, Nat.reduceMul, Nat.reduceSub, Nat.reduceLeDiff, Nat.reduceLT, Int.reduceLT, Int.reduceLE, Int.reduceEq, Int.reduceToNat, Int.reduceAdd, Int.reduceSub, Int.reduceNeg, Int.reduceBEq, Int.reduceBNe, Nat.reduceBEq, Int.cast_ofNat_Int, decide_true, decide_false, ne_eq, eq_self_iff_true, beq_eq_false_iff_ne, bne_iff_ne, List.replicate, eqz_end, eqz_mid, eqz_nil, *] <;> simp_all <;> done))
          | ((with_reducible refine of_kSpec ?_)
             refine call_sub (ds' := [.agg (encMd x.1), .agg (encMd x.2)]) (spec17 x.1 x.2) rfl ?_ ?_
             · simp -implicitDefEqProofs only [SD, SF, SL, e_nf, reduceCtorEq, implies_true, ↓reduceIte, Nat.reduceEqDiff, Nat.reduceAdd, Nat.reduceMul, Nat.reduceSub, Nat.reduceLeDiff, Nat.reduceLT, Int.reduceLT, Int.reduceLE, Int.reduceEq, Int.reduceToNat, Int.reduceAdd, Int.reduceSub, Int.reduceNeg, Int.reduceBEq, Int.reduceBNe, Nat.reduceBEq, Int.cast_ofNat_Int, decide_true, decide_false, ne_eq, eq_self_iff_true, beq_eq_false_iff_ne, bne_iff_ne, List.replicate, encMd, *]
               done)
          | (with_reducible refine ite_in (fun _ => ?_) (fun _ => ?_))
          | (with_reducible refine ⟨fun _ => ?_, fun _ => ?_⟩)
          | (with_reducible refine And.intro ?_ ?_)
          | (with_reducible intro _)
          | (with_reducible exact is_in _)
          | (simp -implicitDefEqProofs only [SD, SF, SL, e_nf, reduceCtorEq, implies_true, ↓reduceIte, Nat.reduceEqDiff, Nat.reduceAdd, Nat.reduceMul, Nat.reduceSub, Nat.reduceLeDiff, Nat.reduceLT, Int.reduceLT, Int.reduceLE, Int.reduceEq, Int.reduceToNat, Int.reduceAdd, Int.reduceSub, Int.reduceNeg, Int.reduceBEq, Int.reduceBNe, Nat.reduceBEq, Int.cast_ofNat_Int, decide_true, decide_false, ne_eq, eq_self_iff_true, beq_eq_false_iff_ne, bne_iff_ne, List.replicate, eqz_end, eqz_mid, eqz_nil, *]))))
        all_goals (simp_all [eqz_end, eqz_mid, eqz_nil])
  · have hne : a ≠ b := fun e => h (by rw [e])
    iterate 30 (all_goals (try (first
      | (with_reducible refine ite_in (fun _ => ?_) (fun _ => ?_))
      | (with_reducible refine ⟨fun _ => ?_, fun _ => ?_⟩)
      | (with_reducible refine And.intro ?_ ?_)
      | (with_reducible intro _)
      | (with_reducible exact is_in _)
      | (simp -implicitDefEqProofs only [SD, SF, SL, e_nf, reduceCtorEq, implies_true, ↓reduceIte, Nat.reduceEqDiff, Nat.reduceAdd, Nat.reduceMul, Nat.reduceSub, Nat.reduceLeDiff, Nat.reduceLT, Int.reduceLT, Int.reduceLE, Int.reduceEq, Int.reduceToNat, Int.reduceAdd, Int.reduceSub, Int.reduceNeg, Int.reduceBEq, Int.reduceBNe, Nat.reduceBEq, Int.cast_ofNat_Int, decide_true, decide_false, ne_eq, eq_self_iff_true, beq_eq_false_iff_ne, bne_iff_ne, List.replicate, len_cast, *]))))
    all_goals (simp_all)
def ac38 : AC := (.seq (.ops [⟨(some 5), none, (.box (.t 2))⟩, ⟨(some 6), none, (.mv (.c .e0))⟩]) (.seq (.ops [⟨(some 8), none, (.buildSl 26 5 0 [(.str []), (.str []), (.int .i64 0), (.int .i64 0), (.int .i64 0)] [])⟩, ⟨(some 9), none, (.mv (.t 0))⟩, ⟨(some 10), none, (.app 26 5 56 (.t 8) (.t 9))⟩, ⟨(some 7), none, (.mv (.t 10))⟩]) (.seq (.ops [⟨(some 11), none, (.mv (.t 7))⟩, ⟨(some 12), none, (.mv (.t 1))⟩, ⟨(some 13), none, (.ld true 5 (.t 5))⟩, ⟨(some 14), none, (.ix 5 (.t 11) (.t 12))⟩, ⟨none, none, (.sto 5 (.t 14) (.t 13))⟩]) (.seq (.ops [⟨(some 15), none, (.mv (.t 7))⟩, ⟨(some 6), none, (.mv (.t 15))⟩]) .ret))))
theorem tr38 : Try.f38.body.bind (trCode Try.prog) = some (strip ac38) := by kernel_rfl
theorem spec38 (l : List Md) (k : Nat) (m : Md) (hk : k < l.length) (hb : l.length ≤ 1000) : Spec Try.prog 38 [.fz (.sl 5 (l.map encMd)), .fz (.int .i64 k), .fz (.agg (encMd m))] (.own 26 5 ((l.map encMd).set k (encMd m))) := by
  refine spec_at (n := 13) (ars := [(.t 6)]) (ac := ac38) Try.func38 (by kernel_rfl) (by kernel_rfl) tr38 (by kernel_rfl) ?_
  unfold ac38
  have h1 : l.length ≤ maxLen := by simp only [maxLen]; omega
  have h2 : l.length * 56 ≤ 140737488355328 := by omega
  have hk2 : (k : Int) < l.length := by omega
  have hr : ∀ y : Md, k < l.length → ((l.map encMd).getD k []).length = 5 := by
    intro y h
    simp [List.getD, List.getElem?_eq_getElem h, encMd]
  iterate 30 (all_goals (try (first
    | (with_reducible refine ite_in (fun _ => ?_) (fun _ => ?_))
    | (with_reducible refine ⟨fun _ => ?_, fun _ => ?_⟩)
    | (with_reducible refine And.intro ?_ ?_)
    | (with_reducible intro _)
    | (with_reducible exact is_in _)
    | (simp -implicitDefEqProofs only [SD, SF, SL, e_nf, reduceCtorEq, implies_true, ↓reduceIte, Nat.reduceEqDiff, Nat.reduceAdd, Nat.reduceMul, Nat.reduceSub, Nat.reduceLeDiff, Nat.reduceLT, Int.reduceLT, Int.reduceLE, Int.reduceEq, Int.reduceToNat, Int.reduceAdd, Int.reduceSub, Int.reduceNeg, Int.reduceBEq, Int.reduceBNe, Nat.reduceBEq, Int.cast_ofNat_Int, decide_true, decide_false, ne_eq, eq_self_iff_true, beq_eq_false_iff_ne, bne_iff_ne, List.replicate, encMd, *]))))
  all_goals (first | (simp_all [encMd]; done) | (have hq := hr m hk; simp_all [seg, encMd]))

end Go.Proofs.Ytfcjmblhcakhaaa.E
