/-
  FiL: walks of functions of the program at data level.
-/
import Derived.Test.YtamcbdflmephdaaProg
import Derived.Test.YtamcbdflmephdaaEngZ
import Derived.Test.YtamcbdflmephdaaFiK
import Derived.KernelRfl
set_option linter.unusedVariables false
set_option linter.unusedSimpArgs false
namespace Go.Proofs.Ytamcbdflmephdaa.E
open Go
set_option maxHeartbeats 4000000
set_option maxRecDepth 100000
set_option linter.unusedSimpArgs false
set_option linter.unusedVariables false
attribute [local congr] c_wp c_ops c_op c_opS c_run c_runS c_dt c_seq c_blk c_loop c_S c_put c_bind c_mv c_pick c_nt c_ng c_bin c_binI c_binS c_beq c_B c_eqa c_hd c_cells c_blkK c_box c_vec c_mp c_nck c_mks c_appn c_mkm c_mput c_mlk c_mrm c_take c_ld c_ldF c_cellsK c_st c_fld c_fldv c_ix c_ixp c_ixv c_ixs c_sub c_subs c_len c_lens c_src c_dst c_ow c_app c_ext c_mm c_conv c_str c_isn c_fill c_rows c_boxo c_frz c_frzO c_frzA c_frzV c_spec c_specO c_opsP c_opP c_runP c_specP c_Z c_qretP c_fz c_fn c_gv c_cond c_res1 c_resL c_ret c_qret c_ite c_unr c_nx c_bk c_cut c_is
attribute [local irreducible] dwp

structure Flt where
  kinds : List Int
  nots : List Int
  senders : List (List UInt8)
  limit : Int
  lzy : Bool
def encFl (f : Flt) : List DV := [.sl 1 (f.kinds.map encN), .sl 1 (f.nots.map encN), .sl 1 (f.senders.map encS), .int .i64 f.limit, .bool f.lzy]
def idxE {α : Type} [DecidableEq α] : List α → α → Nat → Int
  | [], _, _ => -1
  | y :: l, x, i => if x = y then i else idxE l x (i + 1)
theorem idxE_mem {α : Type} [DecidableEq α] (x : α) : ∀ (l : List α) (i : Nat), (0 ≤ idxE l x i) = (x ∈ l)
  | [], i => by simp [idxE]
  | y :: l, i => by
    unfold idxE
    by_cases h : x = y
    · rw [if_pos h]
      simp [h]
    · rw [if_neg h, idxE_mem x l (i + 1)]
      simp [h]
theorem nd_snoc {α : Type} {pre : List α} {x : α} : (pre ++ [x]).Nodup = (pre.Nodup ∧ x ∉ pre) := by
  apply propext
  rw [List.nodup_append]
  constructor
  · rintro ⟨h1, _, h3⟩
    exact ⟨h1, fun hx => h3 x hx x (by simp) rfl⟩
  · rintro ⟨h1, h2⟩
    refine ⟨h1, by simp, ?_⟩
    intro a ha b hb
    simp at hb
    subst hb
    rintro rfl
    exact h2 ha
theorem nd_cut {α : Type} {l pre : List α} {x : α} {rest : List α} (h : l = pre ++ x :: rest) (hx : x ∈ pre) : ¬ l.Nodup := by
  subst h
  rw [List.nodup_append]
  rintro ⟨_, _, h3⟩
  exact h3 x hx x (by simp) rfl
def ndB {α : Type} [DecidableEq α] (l : List α) : Bool := decide l.Nodup
def knB (k : Int) : Bool := decide (1 ≤ k ∧ k ≤ 14)
def usB (u : List UInt8) : Bool := markB u 64
def chkR (f : Flt) : Int := if (f.kinds ++ f.nots).all knB = false then 1 else if (ndB f.kinds && ndB f.nots) = false then 4 else if f.senders.all usB = false then 3 else if ndB f.senders = false then 4 else if f.limit < 1 ∨ 100 < f.limit then 2 else 0
def wants (f : Flt) (e : Ev) : Bool := (decide (f.kinds = []) || decide (e.kind ∈ f.kinds)) && !decide (e.kind ∈ f.nots) && (decide (f.senders = []) || decide (e.sender ∈ f.senders))
theorem take_pre {α : Type} {enc : α → List DV} {l pre : List α} {rest : List α} (h : l = pre ++ rest) : (l.map enc).take pre.length = pre.map enc := by
  subst h
  simp
def ac52 : AC := (.seq (.ops [⟨(some 4), none, (.mv (.c (.int .i64 0)))⟩]) (.seq (.seq (.ops [⟨(some 9), none, (.mv (.t 0))⟩, ⟨(some 10), none, (.mv (.t 1))⟩, ⟨(some 11), none, (.call false 61 [(.t 9), (.t 10)])⟩, ⟨(some 8), none, (.mv (.t 11))⟩, ⟨(some 12), none, (.ext (.t 8) 0)⟩, ⟨(some 13), none, (.ext (.t 8) 1)⟩, ⟨(some 14), none, (.ext (.t 8) 2)⟩, ⟨(some 5), none, (.mv (.t 12))⟩, ⟨(some 6), none, (.mv (.t 13))⟩, ⟨(some 7), none, (.mv (.t 14))⟩]) (.seq (.ops [⟨(some 15), none, (.mv (.t 7))⟩, ⟨(some 16), none, (.nt (.t 15))⟩]) (.cond (.t 16) (.seq (.ops [⟨(some 4), none, (.mv (.c (.int .i64 3)))⟩]) .ret) .skip))) (.seq (.ops [⟨(some 4), none, (.mv (.c (.int .i64 0)))⟩]) .ret)))
theorem tr52 : Try.f52.body.bind (trCode Try.prog) = some (strip ac52) := by kernel_rfl
theorem spec52 (u : List UInt8) (hb : u.length ≤ maxLen) : Spec Try.prog 52 [.fz (.str u), .fz (.str [64])] (.fz (.int .i64 (if markB u 64 = true then 0 else 3))) := by
  refine spec_at (n := 15) (ars := [(.t 4)]) (ac := ac52) Try.func52 (by kernel_rfl) (by kernel_rfl) tr52 (by kernel_rfl) ?_
  unfold ac52
  iterate 30 (all_goals (try (first
    | ((with_reducible refine of_kSpec ?_); refine call_fz (spec61 u hb) rfl ?_)
    | (with_reducible refine ite_in (fun _ => ?_) (fun _ => ?_))
    | (with_reducible refine ⟨fun _ => ?_, fun _ => ?_⟩)
    | (with_reducible refine And.intro ?_ ?_)
    | (with_reducible intro _)
    | (with_reducible exact is_in _)
    | (simp -implicitDefEqProofs only [SD, SF, SL, e_nf, reduceCtorEq, implies_true, ↓reduceIte, Nat.reduceEqDiff, Nat.reduceAdd, Nat.reduceMul, Nat.reduceSub, Nat.reduceLeDiff, Nat.reduceLT, Int.reduceLT, Int.reduceLE, Int.reduceEq, Int.reduceToNat, Int.reduceAdd, Int.reduceSub, Int.reduceNeg, Int.reduceBEq, Int.reduceBNe, Nat.reduceBEq, Int.cast_ofNat_Int, decide_true, decide_false, ne_eq, eq_self_iff_true, beq_eq_false_iff_ne, bne_iff_ne, List.replicate, *]))))
  all_goals (first | (simp_all; done) | omega)
def ac28 : AC := (.seq (.ops [⟨(some 2), none, (.mv (.c (.int .i64 0)))⟩]) (.seq (.ops [⟨(some 3), none, (.mv (.t 0))⟩, ⟨(some 4), none, (.call false 52 [(.t 3), (.c (.str [64]))])⟩, ⟨(some 2), none, (.mv (.t 4))⟩]) .ret))
theorem tr28 : Try.f28.body.bind (trCode Try.prog) = some (strip ac28) := by kernel_rfl
theorem spec0_28 (u : List UInt8) (hb : u.length ≤ maxLen) : Spec Try.prog 28 [.fz (.str u)] (.fz (.int .i64 (if markB u 64 = true then 0 else 3))) := by
  refine spec_at (n := 4) (ars := [(.t 2)]) (ac := ac28) Try.func28 (by kernel_rfl) (by kernel_rfl) tr28 (by kernel_rfl) ?_
  unfold ac28
  iterate 30 (all_goals (try (first
    | ((with_reducible refine of_kSpec ?_); refine call_fz (spec52 u hb) rfl ?_)
    | (with_reducible refine ite_in (fun _ => ?_) (fun _ => ?_))
    | (with_reducible refine ⟨fun _ => ?_, fun _ => ?_⟩)
    | (with_reducible refine And.intro ?_ ?_)
    | (with_reducible intro _)
    | (with_reducible exact is_in _)
    | (simp -implicitDefEqProofs only [SD, SF, SL, e_nf, reduceCtorEq, implies_true, ↓reduceIte, Nat.reduceEqDiff, Nat.reduceAdd, Nat.reduceMul, Nat.reduceSub, Nat.reduceLeDiff, Nat.reduceLT, Int.reduceLT, Int.reduceLE, Int.reduceEq, Int.reduceToNat, Int.reduceAdd, Int.reduceSub, Int.reduceNeg, Int.reduceBEq, Int.reduceBNe, Nat.reduceBEq, Int.cast_ofNat_Int, decide_true, decide_false, ne_eq, eq_self_iff_true, beq_eq_false_iff_ne, bne_iff_ne, List.replicate, *]))))
  all_goals (first | (simp_all; done) | omega)
theorem spec28 (u : List UInt8) : Spec Try.prog 28 [.fz (.str u)] (.fz (.int .i64 (if usB u = true then 0 else 3))) := spec_str 0 u rfl (by kernel_rfl) (spec0_28 u)
def ac32 : AC := (.seq (.ops [⟨(some 2), none, (.mv (.c (.int .i64 0)))⟩]) (.seq (.seq (.ops [⟨(some 3), none, (.mv (.t 0))⟩, ⟨(some 4), none, (.call false 53 [(.t 3), (.c (.int .u8 64))])⟩, ⟨(some 5), none, (.nt (.t 4))⟩]) (.cond (.t 5) (.seq (.ops [⟨(some 2), none, (.mv (.c (.int .i64 3)))⟩]) .ret) .skip)) (.seq (.ops [⟨(some 2), none, (.mv (.c (.int .i64 0)))⟩]) .ret)))
theorem tr32 : Try.f32.body.bind (trCode Try.prog) = some (strip ac32) := by kernel_rfl
theorem spec0_32 (u : List UInt8) (hb : u.length ≤ maxLen) : Spec Try.prog 32 [.fz (.str u)] (.fz (.int .i64 (if markB u 64 = true then 0 else 3))) := by
  refine spec_at (n := 5) (ars := [(.t 2)]) (ac := ac32) Try.func32 (by kernel_rfl) (by kernel_rfl) tr32 (by kernel_rfl) ?_
  unfold ac32
  iterate 30 (all_goals (try (first
    | ((with_reducible refine of_kSpec ?_); refine call_fz (spec64_53 u hb) rfl ?_)
    | (with_reducible refine ite_in (fun _ => ?_) (fun _ => ?_))
    | (with_reducible refine ⟨fun _ => ?_, fun _ => ?_⟩)
    | (with_reducible refine And.intro ?_ ?_)
    | (with_reducible intro _)
    | (with_reducible exact is_in _)
    | (simp -implicitDefEqProofs only [SD, SF, SL, e_nf, reduceCtorEq, implies_true, ↓reduceIte, Nat.reduceEqDiff, Nat.reduceAdd, Nat.reduceMul, Nat.reduceSub, Nat.reduceLeDiff, Nat.reduceLT, Int.reduceLT, Int.reduceLE, Int.reduceEq, Int.reduceToNat, Int.reduceAdd, Int.reduceSub, Int.reduceNeg, Int.reduceBEq, Int.reduceBNe, Nat.reduceBEq, Int.cast_ofNat_Int, decide_true, decide_false, ne_eq, eq_self_iff_true, beq_eq_false_iff_ne, bne_iff_ne, List.replicate, *]))))
  all_goals (first | (simp_all; done) | omega)
theorem spec32 (u : List UInt8) : Spec Try.prog 32 [.fz (.str u)] (.fz (.int .i64 (if usB u = true then 0 else 3))) := spec_str 0 u rfl (by kernel_rfl) (spec0_32 u)
def ac54 : AC := (.seq (.ops [⟨(some 4), none, (.mv (.c (.int .i64 0)))⟩]) (.seq (.seq (.ops [⟨(some 6), none, (.mv (.t 0))⟩, ⟨(some 7), none, (.len (.t 6))⟩, ⟨(some 8), none, (.mv (.c (.int .i64 0)))⟩]) (.block 0 (.loop (.seq (.ops [⟨(some 9), none, (.bin .lss (.t 8) (.t 7))⟩]) (.seq (.cond (.t 9) .skip (.exit 0)) (.seq (.block 1 (.seq (.ops [⟨(some 10), none, (.mv (.t 8))⟩, ⟨(some 5), none, (.mv (.t 10))⟩]) (.seq (.ops [⟨(some 11), none, (.mv (.t 1))⟩, ⟨(some 12), none, (.mv (.t 0))⟩, ⟨(some 13), none, (.mv (.t 5))⟩, ⟨(some 14), none, (.ix 1 (.t 12) (.t 13))⟩, ⟨(some 15), none, (.ld false 1 (.t 14))⟩, ⟨(some 16), none, (.bin .eql (.t 11) (.t 15))⟩]) (.cond (.t 16) (.seq (.ops [⟨(some 17), none, (.mv (.t 5))⟩, ⟨(some 4), none, (.mv (.t 17))⟩]) .ret) .skip)))) (.ops [⟨(some 18), none, (.bin .add (.t 8) (.c (.int .i64 1)))⟩, ⟨(some 8), none, (.mv (.t 18))⟩]))))))) (.seq (.ops [⟨(some 4), none, (.mv (.c (.int .i64 (-1))))⟩]) .ret)))
theorem tr54 : Try.f54.body.bind (trCode Try.prog) = some (strip ac54) := by kernel_rfl
theorem spec54 (l : List Int) (q : Int) : Spec Try.prog 54 [.fz (.sl 1 (l.map encN)), .fz (.int .i64 q)] (.fz (.int .i64 (idxE l q 0))) := by
  refine spec_at (n := 17) (ars := [(.t 4)]) (ac := ac54) Try.func54 (by kernel_rfl) (by kernel_rfl) tr54 (by kernel_rfl) ?_
  unfold ac54
  simp -implicitDefEqProofs only [SD, SF, SL, e_nf, reduceCtorEq, implies_true, ↓reduceIte, Nat.reduceEqDiff, Nat.reduceAdd, Nat.reduceMul, Nat.reduceSub, Nat.reduceLeDiff, Nat.reduceLT, Int.reduceLT, Int.reduceLE, Int.reduceEq, Int.reduceToNat, Int.reduceAdd, Int.reduceSub, Int.reduceNeg, Int.reduceBEq, Int.reduceBNe, Nat.reduceBEq, Int.cast_ofNat_Int, decide_true, decide_false, ne_eq, eq_self_iff_true, beq_eq_false_iff_ne, bne_iff_ne, List.replicate]
  intro hl
  refine loop_q (X := List Int × List Int × Unit) (fun n x => l = x.1 ++ x.2.1 ∧ n = x.2.1.length ∧ (idxE l q 0 = idxE x.2.1 q x.1.length)) (fun x => [(8, .int .i64 x.1.length)]) (fun _ => []) [4, 5, 9, 10, 11, 12, 13, 14, 15, 16, 17, 18] []  (l).length ([], l, ()) ⟨rfl, rfl, by first | rfl | (simp_all [idxE]; done)⟩ ?_ ?_
  · simp -implicitDefEqProofs only [SD, SF, SL, e_nf, reduceCtorEq, implies_true, ↓reduceIte, Nat.reduceEqDiff, Nat.reduceAdd, Nat.reduceMul, Nat.reduceSub, Nat.reduceLeDiff, Nat.reduceLT, Int.reduceLT, Int.reduceLE, Int.reduceEq, Int.reduceToNat, Int.reduceAdd, Int.reduceSub, Int.reduceNeg, Int.reduceBEq, Int.reduceBNe, Nat.reduceBEq, Int.cast_ofNat_Int, decide_true, decide_false, ne_eq, eq_self_iff_true, beq_eq_false_iff_ne, bne_iff_ne, List.replicate] <;> simp
  · rintro n ⟨pre, rest, a⟩ ⟨he, rfl, hI⟩
    dsimp only at he hI
    cases rest with
    | nil =>
      obtain rfl : l = pre := by simpa using he
      clear he
      have hlt : ¬ (((l).length : Int) < ((l).length : Int)) := Int.lt_irrefl _
      iterate 30 (all_goals (try (first
        | (with_reducible refine ite_in (fun _ => ?_) (fun _ => ?_))
        | (with_reducible refine ⟨fun _ => ?_, fun _ => ?_⟩)
        | (with_reducible refine And.intro ?_ ?_)
        | (with_reducible intro _)
        | (with_reducible exact is_in _)
        | ((with_reducible refine eq_in ?_); (first | (simp_all [idxE]; done) | (have hq : q = x := by assumption; subst hq; simp_all [idxE]; done)); done)
        | (simp -implicitDefEqProofs only [SD, SF, SL, e_nf, reduceCtorEq, implies_true, ↓reduceIte, Nat.reduceEqDiff, Nat.reduceAdd, Nat.reduceMul, Nat.reduceSub, Nat.reduceLeDiff, Nat.reduceLT, Int.reduceLT, Int.reduceLE, Int.reduceEq, Int.reduceToNat, Int.reduceAdd, Int.reduceSub, Int.reduceNeg, Int.reduceBEq, Int.reduceBNe, Nat.reduceBEq, Int.cast_ofNat_Int, decide_true, decide_false, ne_eq, eq_self_iff_true, beq_eq_false_iff_ne, bne_iff_ne, List.replicate, *]))))
      all_goals (simp_all [idxE])

    | cons x rest =>
      have hlt := cut_lt he
      have hx := cutD encN he
      simp only [encN] at hx
      have hw := wrap_len (n := pre.length) (m := (l).length) (cut_lt' he) (by simpa using hl)
      replace he := Hd.mk he
      iterate 30 (all_goals (try (first
        | ((with_reducible refine back_in rest.length [4, 5, 9, 10, 11, 12, 13, 14, 15, 16, 17, 18] [] (pre ++ [x], rest, a) ?_ ⟨?_, ?_, ?_⟩ ?_)
           · simp
           · exact cut_snoc he.out
           · rfl
           · first | rfl | (simp_all [idxE]; done)
           · first | (simp -implicitDefEqProofs only [SD, SF, SL, e_nf, reduceCtorEq, implies_true, ↓reduceIte, Nat.reduceEqDiff, Nat.reduceAdd, Nat.reduceMul, Nat.reduceSub, Nat.reduceLeDiff, Nat.reduceLT, Int.reduceLT, Int.reduceLE, Int.reduceEq, Int.reduceToNat, Int.reduceAdd, Int.reduceSub, Int.reduceNeg, Int.reduceBEq, Int.reduceBNe, Nat.reduceBEq, Int.cast_ofNat_Int, decide_true, decide_false, ne_eq, eq_self_iff_true, beq_eq_false_iff_ne, bne_iff_ne, List.replicate] <;> simp <;> done) | (simp -implicitDefEqProofs only [SD, SF, SL, e_nf, reduceCtorEq, implies_true, ↓reduceIte, Nat.reduceEqDiff, Nat.reduceAdd, Nat.reduceMul, Nat.reduceSub, Nat.reduceLeDiff, Nat.reduceLT, Int.reduceLT, Int.reduceLE, Int.reduceEq, Int.reduceToNat, Int.reduceAdd, Int.reduceSub, Int.reduceNeg, Int.reduceBEq, Int.reduceBNe, Nat.reduceBEq, Int.cast_ofNat_Int, decide_true, decide_false, ne_eq, eq_self_iff_true, beq_eq_false_iff_ne, bne_iff_ne, List.replicate, *] <;> simp_all <;> done))
        | (with_reducible refine ite_in (fun _ => ?_) (fun _ => ?_))
        | (with_reducible refine ⟨fun _ => ?_, fun _ => ?_⟩)
        | (with_reducible refine And.intro ?_ ?_)
        | (with_reducible intro _)
        | (with_reducible exact is_in _)
        | ((with_reducible refine eq_in ?_); (first | (simp_all [idxE]; done) | (have hq : q = x := by assumption; subst hq; simp_all [idxE]; done)); done)
        | (simp -implicitDefEqProofs only [SD, SF, SL, e_nf, reduceCtorEq, implies_true, ↓reduceIte, Nat.reduceEqDiff, Nat.reduceAdd, Nat.reduceMul, Nat.reduceSub, Nat.reduceLeDiff, Nat.reduceLT, Int.reduceLT, Int.reduceLE, Int.reduceEq, Int.reduceToNat, Int.reduceAdd, Int.reduceSub, Int.reduceNeg, Int.reduceBEq, Int.reduceBNe, Nat.reduceBEq, Int.cast_ofNat_Int, decide_true, decide_false, ne_eq, eq_self_iff_true, beq_eq_false_iff_ne, bne_iff_ne, List.replicate, *]))))
      all_goals (first | (simp_all [idxE]; done) | (have hq : q = x := by assumption; subst hq; simp_all [idxE]; done))
def ac34 : AC := (.seq (.ops [⟨(some 4), none, (.mv (.c (.bool false)))⟩]) (.seq (.ops [⟨(some 5), none, (.mv (.t 0))⟩, ⟨(some 6), none, (.mv (.t 1))⟩, ⟨(some 7), none, (.call false 54 [(.t 5), (.t 6)])⟩, ⟨(some 8), none, (.bin .geq (.t 7) (.c (.int .i64 0)))⟩, ⟨(some 4), none, (.mv (.t 8))⟩]) .ret))
theorem tr34 : Try.f34.body.bind (trCode Try.prog) = some (strip ac34) := by kernel_rfl
theorem spec34 (l : List Int) (q : Int) : Spec Try.prog 34 [.fz (.sl 1 (l.map encN)), .fz (.int .i64 q)] (.fz (.bool (decide (q ∈ l)))) := by
  refine spec_at (n := 7) (ars := [(.t 4)]) (ac := ac34) Try.func34 (by kernel_rfl) (by kernel_rfl) tr34 (by kernel_rfl) ?_
  unfold ac34
  iterate 30 (all_goals (try (first
    | ((with_reducible refine of_kSpec ?_); refine call_fz (spec54 l q) rfl ?_)
    | (with_reducible refine ite_in (fun _ => ?_) (fun _ => ?_))
    | (with_reducible refine ⟨fun _ => ?_, fun _ => ?_⟩)
    | (with_reducible refine And.intro ?_ ?_)
    | (with_reducible intro _)
    | (with_reducible exact is_in _)
    | (simp -implicitDefEqProofs only [SD, SF, SL, e_nf, reduceCtorEq, implies_true, ↓reduceIte, Nat.reduceEqDiff, Nat.reduceAdd, Nat.reduceMul, Nat.reduceSub, Nat.reduceLeDiff, Nat.reduceLT, Int.reduceLT, Int.reduceLE, Int.reduceEq, Int.reduceToNat, Int.reduceAdd, Int.reduceSub, Int.reduceNeg, Int.reduceBEq, Int.reduceBNe, Nat.reduceBEq, Int.cast_ofNat_Int, decide_true, decide_false, ne_eq, eq_self_iff_true, beq_eq_false_iff_ne, bne_iff_ne, List.replicate, idxE_mem, *]))))
  all_goals (simp_all [idxE_mem])
def ac36 : AC := (.seq (.ops [⟨(some 4), none, (.mv (.c (.bool false)))⟩]) (.seq (.seq (.ops [⟨(some 5), none, (.mv (.c (.int .i64 0)))⟩]) (.block 0 (.loop (.seq (.seq (.ops [⟨(some 6), none, (.mv (.t 5))⟩, ⟨(some 7), none, (.mv (.t 0))⟩, ⟨(some 8), none, (.len (.t 7))⟩, ⟨(some 9), none, (.bin .lss (.t 6) (.t 8))⟩]) (.cond (.t 9) .skip (.exit 0))) (.seq (.block 1 (.seq (.ops [⟨(some 12), none, (.mv (.t 0))⟩, ⟨(some 13), none, (.mv (.t 5))⟩, ⟨(some 14), none, (.ix 1 (.t 12) (.t 13))⟩, ⟨(some 15), none, (.ld false 1 (.t 14))⟩, ⟨(some 16), none, (.mv (.t 1))⟩, ⟨(some 17), none, (.bin .eql (.t 15) (.t 16))⟩]) (.cond (.t 17) (.seq (.ops [⟨(some 4), none, (.mv (.c (.bool true)))⟩]) .ret) .skip))) (.ops [⟨(some 10), none, (.mv (.t 5))⟩, ⟨(some 11), none, (.bin .add (.t 10) (.c (.int .i64 1)))⟩, ⟨(some 5), none, (.mv (.t 11))⟩])))))) (.seq (.ops [⟨(some 4), none, (.mv (.c (.bool false)))⟩]) .ret)))
theorem tr36 : Try.f36.body.bind (trCode Try.prog) = some (strip ac36) := by kernel_rfl
theorem spec36 (l : List Int) (q : Int) : Spec Try.prog 36 [.fz (.sl 1 (l.map encN)), .fz (.int .i64 q)] (.fz (.bool (decide (q ∈ l)))) := by
  refine spec_at (n := 16) (ars := [(.t 4)]) (ac := ac36) Try.func36 (by kernel_rfl) (by kernel_rfl) tr36 (by kernel_rfl) ?_
  unfold ac36
  simp -implicitDefEqProofs only [SD, SF, SL, e_nf, reduceCtorEq, implies_true, ↓reduceIte, Nat.reduceEqDiff, Nat.reduceAdd, Nat.reduceMul, Nat.reduceSub, Nat.reduceLeDiff, Nat.reduceLT, Int.reduceLT, Int.reduceLE, Int.reduceEq, Int.reduceToNat, Int.reduceAdd, Int.reduceSub, Int.reduceNeg, Int.reduceBEq, Int.reduceBNe, Nat.reduceBEq, Int.cast_ofNat_Int, decide_true, decide_false, ne_eq, eq_self_iff_true, beq_eq_false_iff_ne, bne_iff_ne, List.replicate]
  refine loop_q (X := List Int × List Int × Unit) (fun n x => l = x.1 ++ x.2.1 ∧ n = x.2.1.length ∧ (q ∉ x.1)) (fun x => [(5, .int .i64 x.1.length)]) (fun _ => []) [4, 6, 7, 8, 9, 10, 11, 12, 13, 14, 15, 16, 17] []  (l).length ([], l, ()) ⟨rfl, rfl, by first | (simp; done) | (simp_all [List.mem_append]; done) | grind⟩ ?_ ?_
  · simp -implicitDefEqProofs only [SD, SF, SL, e_nf, reduceCtorEq, implies_true, ↓reduceIte, Nat.reduceEqDiff, Nat.reduceAdd, Nat.reduceMul, Nat.reduceSub, Nat.reduceLeDiff, Nat.reduceLT, Int.reduceLT, Int.reduceLE, Int.reduceEq, Int.reduceToNat, Int.reduceAdd, Int.reduceSub, Int.reduceNeg, Int.reduceBEq, Int.reduceBNe, Nat.reduceBEq, Int.cast_ofNat_Int, decide_true, decide_false, ne_eq, eq_self_iff_true, beq_eq_false_iff_ne, bne_iff_ne, List.replicate] <;> simp
  · rintro n ⟨pre, rest, a⟩ ⟨he, rfl, hI⟩
    dsimp only at he hI
    cases rest with
    | nil =>
      obtain rfl : l = pre := by simpa using he
      clear he
      have hlt : ¬ (((l).length : Int) < ((l).length : Int)) := Int.lt_irrefl _
      iterate 30 (all_goals (try (first
        | (with_reducible refine ite_in (fun _ => ?_) (fun _ => ?_))
        | (with_reducible refine ⟨fun _ => ?_, fun _ => ?_⟩)
        | (with_reducible refine And.intro ?_ ?_)
        | (with_reducible intro _)
        | (with_reducible exact is_in _)
        | ((with_reducible refine eq_in ?_); ((have hq := he.out; first | (simp_all; done) | grind)); done)
        | (simp -implicitDefEqProofs only [SD, SF, SL, e_nf, reduceCtorEq, implies_true, ↓reduceIte, Nat.reduceEqDiff, Nat.reduceAdd, Nat.reduceMul, Nat.reduceSub, Nat.reduceLeDiff, Nat.reduceLT, Int.reduceLT, Int.reduceLE, Int.reduceEq, Int.reduceToNat, Int.reduceAdd, Int.reduceSub, Int.reduceNeg, Int.reduceBEq, Int.reduceBNe, Nat.reduceBEq, Int.cast_ofNat_Int, decide_true, decide_false, ne_eq, eq_self_iff_true, beq_eq_false_iff_ne, bne_iff_ne, List.replicate, *]))))
      all_goals (simp_all)

    | cons x rest =>
      have hlt := cut_lt he
      have hx := cutD encN he
      simp only [encN] at hx
      simp -implicitDefEqProofs only [SD, SF, SL, e_nf, reduceCtorEq, implies_true, ↓reduceIte, Nat.reduceEqDiff, Nat.reduceAdd, Nat.reduceMul, Nat.reduceSub, Nat.reduceLeDiff, Nat.reduceLT, Int.reduceLT, Int.reduceLE, Int.reduceEq, Int.reduceToNat, Int.reduceAdd, Int.reduceSub, Int.reduceNeg, Int.reduceBEq, Int.reduceBNe, Nat.reduceBEq, Int.cast_ofNat_Int, decide_true, decide_false, ne_eq, eq_self_iff_true, beq_eq_false_iff_ne, bne_iff_ne, List.replicate, hlt]
      intro hl
      have hw := wrap_len (n := pre.length) (m := (l).length) (cut_lt' he) (by simpa using hl)
      replace he := Hd.mk he
      iterate 30 (all_goals (try (first
        | ((with_reducible refine back_in rest.length [4, 6, 7, 8, 9, 10, 11, 12, 13, 14, 15, 16, 17] [] (pre ++ [x], rest, a) ?_ ⟨?_, ?_, ?_⟩ ?_)
           · simp
           · exact cut_snoc he.out
           · rfl
           · first | (simp; done) | (simp_all [List.mem_append]; done) | grind
           · first | (simp -implicitDefEqProofs only [SD, SF, SL, e_nf, reduceCtorEq, implies_true, ↓reduceIte, Nat.reduceEqDiff, Nat.reduceAdd, Nat.reduceMul, Nat.reduceSub, Nat.reduceLeDiff, Nat.reduceLT, Int.reduceLT, Int.reduceLE, Int.reduceEq, Int.reduceToNat, Int.reduceAdd, Int.reduceSub, Int.reduceNeg, Int.reduceBEq, Int.reduceBNe, Nat.reduceBEq, Int.cast_ofNat_Int, decide_true, decide_false, ne_eq, eq_self_iff_true, beq_eq_false_iff_ne, bne_iff_ne, List.replicate] <;> simp <;> done) | (simp -implicitDefEqProofs only [SD, SF, SL, e_nf, reduceCtorEq, implies_true, ↓reduceIte, Nat.reduceEqDiff, Nat.reduceAdd, Nat.reduceMul, Nat.reduceSub, Nat.reduceLeDiff, Nat.reduceLT, Int.reduceLT, Int.reduceLE, Int.reduceEq, Int.reduceToNat, Int.reduceAdd, Int.reduceSub, Int.reduceNeg, Int.reduceBEq, Int.reduceBNe, Nat.reduceBEq, Int.cast_ofNat_Int, decide_true, decide_false, ne_eq, eq_self_iff_true, beq_eq_false_iff_ne, bne_iff_ne, List.replicate, *] <;> simp_all <;> done))
        | (with_reducible refine ite_in (fun _ => ?_) (fun _ => ?_))
        | (with_reducible refine ⟨fun _ => ?_, fun _ => ?_⟩)
        | (with_reducible refine And.intro ?_ ?_)
        | (with_reducible intro _)
        | (with_reducible exact is_in _)
        | ((with_reducible refine eq_in ?_); ((have hq := he.out; first | (simp_all; done) | grind)); done)
        | (simp -implicitDefEqProofs only [SD, SF, SL, e_nf, reduceCtorEq, implies_true, ↓reduceIte, Nat.reduceEqDiff, Nat.reduceAdd, Nat.reduceMul, Nat.reduceSub, Nat.reduceLeDiff, Nat.reduceLT, Int.reduceLT, Int.reduceLE, Int.reduceEq, Int.reduceToNat, Int.reduceAdd, Int.reduceSub, Int.reduceNeg, Int.reduceBEq, Int.reduceBNe, Nat.reduceBEq, Int.cast_ofNat_Int, decide_true, decide_false, ne_eq, eq_self_iff_true, beq_eq_false_iff_ne, bne_iff_ne, List.replicate, *]))))
      all_goals ((have hq := he.out; first | (simp_all; done) | grind))
def ac27 : AC := (.seq (.ops [⟨(some 2), none, (.mv (.c (.bool false)))⟩]) (.seq (.seq (.ops [⟨(some 5), none, (.mv (.t 0))⟩, ⟨(some 6), none, (.len (.t 5))⟩, ⟨(some 7), none, (.mv (.c (.int .i64 0)))⟩]) (.block 0 (.loop (.seq (.ops [⟨(some 8), none, (.bin .lss (.t 7) (.t 6))⟩]) (.seq (.cond (.t 8) .skip (.exit 0)) (.seq (.block 1 (.seq (.ops [⟨(some 9), none, (.mv (.t 7))⟩, ⟨(some 10), none, (.ix 1 (.t 5) (.t 7))⟩, ⟨(some 11), none, (.ld false 1 (.t 10))⟩, ⟨(some 3), none, (.mv (.t 9))⟩, ⟨(some 4), none, (.mv (.t 11))⟩]) (.seq (.ops [⟨(some 12), none, (.mv (.t 0))⟩, ⟨(some 13), none, (.mv (.t 3))⟩, ⟨(some 14), none, (.sub 1 (.t 12) none (some (.t 13)) none)⟩, ⟨(some 15), none, (.mv (.t 4))⟩, ⟨(some 16), none, (.call false 34 [(.t 14), (.t 15)])⟩]) (.cond (.t 16) (.seq (.ops [⟨(some 2), none, (.mv (.c (.bool true)))⟩]) .ret) .skip)))) (.ops [⟨(some 17), none, (.bin .add (.t 7) (.c (.int .i64 1)))⟩, ⟨(some 7), none, (.mv (.t 17))⟩]))))))) (.seq (.ops [⟨(some 2), none, (.mv (.c (.bool false)))⟩]) .ret)))
theorem tr27 : Try.f27.body.bind (trCode Try.prog) = some (strip ac27) := by kernel_rfl
theorem spec27 (l : List Int) : Spec Try.prog 27 [.fz (.sl 1 (l.map encN))] (.fz (.bool ((!ndB l)))) := by
  refine spec_at (n := 17) (ars := [(.t 2)]) (ac := ac27) Try.func27 (by kernel_rfl) (by kernel_rfl) tr27 (by kernel_rfl) ?_
  unfold ac27
  simp -implicitDefEqProofs only [SD, SF, SL, e_nf, reduceCtorEq, implies_true, ↓reduceIte, Nat.reduceEqDiff, Nat.reduceAdd, Nat.reduceMul, Nat.reduceSub, Nat.reduceLeDiff, Nat.reduceLT, Int.reduceLT, Int.reduceLE, Int.reduceEq, Int.reduceToNat, Int.reduceAdd, Int.reduceSub, Int.reduceNeg, Int.reduceBEq, Int.reduceBNe, Nat.reduceBEq, Int.cast_ofNat_Int, decide_true, decide_false, ne_eq, eq_self_iff_true, beq_eq_false_iff_ne, bne_iff_ne, List.replicate]
  intro hl
  refine loop_q (X := List Int × List Int × Unit) (fun n x => l = x.1 ++ x.2.1 ∧ n = x.2.1.length ∧ (x.1.Nodup)) (fun x => [(7, .int .i64 x.1.length)]) (fun _ => []) [2, 3, 4, 8, 9, 10, 11, 12, 13, 14, 15, 16, 17] []  (l).length ([], l, ()) ⟨rfl, rfl, by first | (simp; done) | (rw [nd_snoc]; exact ⟨hI, by simp_all⟩)⟩ ?_ ?_
  · simp -implicitDefEqProofs only [SD, SF, SL, e_nf, reduceCtorEq, implies_true, ↓reduceIte, Nat.reduceEqDiff, Nat.reduceAdd, Nat.reduceMul, Nat.reduceSub, Nat.reduceLeDiff, Nat.reduceLT, Int.reduceLT, Int.reduceLE, Int.reduceEq, Int.reduceToNat, Int.reduceAdd, Int.reduceSub, Int.reduceNeg, Int.reduceBEq, Int.reduceBNe, Nat.reduceBEq, Int.cast_ofNat_Int, decide_true, decide_false, ne_eq, eq_self_iff_true, beq_eq_false_iff_ne, bne_iff_ne, List.replicate] <;> simp
  · rintro n ⟨pre, rest, a⟩ ⟨he, rfl, hI⟩
    dsimp only at he hI
    cases rest with
    | nil =>
      obtain rfl : l = pre := by simpa using he
      clear he
      have hlt : ¬ (((l).length : Int) < ((l).length : Int)) := Int.lt_irrefl _
      iterate 30 (all_goals (try (first
        | ((with_reducible refine of_kSpec ?_)
           refine call_sub (ds' := [.sl 1 (pre.map encN), .int .i64 x]) (spec34 pre x) rfl ?_ ?_
           · simp -implicitDefEqProofs only [SD, SF, SL, e_nf, reduceCtorEq, implies_true, ↓reduceIte, Nat.reduceEqDiff, Nat.reduceAdd, Nat.reduceMul, Nat.reduceSub, Nat.reduceLeDiff, Nat.reduceLT, Int.reduceLT, Int.reduceLE, Int.reduceEq, Int.reduceToNat, Int.reduceAdd, Int.reduceSub, Int.reduceNeg, Int.reduceBEq, Int.reduceBNe, Nat.reduceBEq, Int.cast_ofNat_Int, decide_true, decide_false, ne_eq, eq_self_iff_true, beq_eq_false_iff_ne, bne_iff_ne, List.replicate, *]
             done)
        | (with_reducible refine ite_in (fun _ => ?_) (fun _ => ?_))
        | (with_reducible refine ⟨fun _ => ?_, fun _ => ?_⟩)
        | (with_reducible refine And.intro ?_ ?_)
        | (with_reducible intro _)
        | (with_reducible exact is_in _)
        | (simp -implicitDefEqProofs only [SD, SF, SL, e_nf, reduceCtorEq, implies_true, ↓reduceIte, Nat.reduceEqDiff, Nat.reduceAdd, Nat.reduceMul, Nat.reduceSub, Nat.reduceLeDiff, Nat.reduceLT, Int.reduceLT, Int.reduceLE, Int.reduceEq, Int.reduceToNat, Int.reduceAdd, Int.reduceSub, Int.reduceNeg, Int.reduceBEq, Int.reduceBNe, Nat.reduceBEq, Int.cast_ofNat_Int, decide_true, decide_false, ne_eq, eq_self_iff_true, beq_eq_false_iff_ne, bne_iff_ne, List.replicate, *]))))
      all_goals (simp_all [ndB])

    | cons x rest =>
      have hlt := cut_lt he
      have hx := cutD encN he
      simp only [encN] at hx
      have hw := wrap_len (n := pre.length) (m := (l).length) (cut_lt' he) (by simpa using hl)
      replace he := Hd.mk he
      have htk := take_pre (enc := encN) he.out
      have hle : (pre.length : Int) ≤ l.length := by have := cut_lt' he.out; omega
      iterate 30 (all_goals (try (first
        | ((with_reducible refine back_in rest.length [2, 3, 4, 8, 9, 10, 11, 12, 13, 14, 15, 16, 17] [] (pre ++ [x], rest, a) ?_ ⟨?_, ?_, ?_⟩ ?_)
           · simp
           · exact cut_snoc he.out
           · rfl
           · first | (simp; done) | (rw [nd_snoc]; exact ⟨hI, by simp_all⟩)
           · first | (simp -implicitDefEqProofs only [SD, SF, SL, e_nf, reduceCtorEq, implies_true, ↓reduceIte, Nat.reduceEqDiff, Nat.reduceAdd, Nat.reduceMul, Nat.reduceSub, Nat.reduceLeDiff, Nat.reduceLT, Int.reduceLT, Int.reduceLE, Int.reduceEq, Int.reduceToNat, Int.reduceAdd, Int.reduceSub, Int.reduceNeg, Int.reduceBEq, Int.reduceBNe, Nat.reduceBEq, Int.cast_ofNat_Int, decide_true, decide_false, ne_eq, eq_self_iff_true, beq_eq_false_iff_ne, bne_iff_ne, List.replicate] <;> simp <;> done) | (simp -implicitDefEqProofs only [SD, SF, SL, e_nf, reduceCtorEq, implies_true, ↓reduceIte, Nat.reduceEqDiff, Nat.reduceAdd, Nat.reduceMul, Nat.reduceSub, Nat.reduceLeDiff, Nat.reduceLT, Int.reduceLT, Int.reduceLE, Int.reduceEq, Int.reduceToNat, Int.reduceAdd, Int.reduceSub, Int.reduceNeg, Int.reduceBEq, Int.reduceBNe, Nat.reduceBEq, Int.cast_ofNat_Int, decide_true, decide_false, ne_eq, eq_self_iff_true, beq_eq_false_iff_ne, bne_iff_ne, List.replicate, *] <;> simp_all <;> done))
        | ((with_reducible refine of_kSpec ?_)
           refine call_sub (ds' := [.sl 1 (pre.map encN), .int .i64 x]) (spec34 pre x) rfl ?_ ?_
           · simp -implicitDefEqProofs only [SD, SF, SL, e_nf, reduceCtorEq, implies_true, ↓reduceIte, Nat.reduceEqDiff, Nat.reduceAdd, Nat.reduceMul, Nat.reduceSub, Nat.reduceLeDiff, Nat.reduceLT, Int.reduceLT, Int.reduceLE, Int.reduceEq, Int.reduceToNat, Int.reduceAdd, Int.reduceSub, Int.reduceNeg, Int.reduceBEq, Int.reduceBNe, Nat.reduceBEq, Int.cast_ofNat_Int, decide_true, decide_false, ne_eq, eq_self_iff_true, beq_eq_false_iff_ne, bne_iff_ne, List.replicate, *]
             done)
        | (with_reducible refine ite_in (fun _ => ?_) (fun _ => ?_))
        | (with_reducible refine ⟨fun _ => ?_, fun _ => ?_⟩)
        | (with_reducible refine And.intro ?_ ?_)
        | (with_reducible intro _)
        | (with_reducible exact is_in _)
        | (simp -implicitDefEqProofs only [SD, SF, SL, e_nf, reduceCtorEq, implies_true, ↓reduceIte, Nat.reduceEqDiff, Nat.reduceAdd, Nat.reduceMul, Nat.reduceSub, Nat.reduceLeDiff, Nat.reduceLT, Int.reduceLT, Int.reduceLE, Int.reduceEq, Int.reduceToNat, Int.reduceAdd, Int.reduceSub, Int.reduceNeg, Int.reduceBEq, Int.reduceBNe, Nat.reduceBEq, Int.cast_ofNat_Int, decide_true, decide_false, ne_eq, eq_self_iff_true, beq_eq_false_iff_ne, bne_iff_ne, List.replicate, *]))))
      all_goals (first | omega | (have hq : ¬ l.Nodup := nd_cut he.out (by assumption); simp [ndB, hq]; done))
def ac31 : AC := (.seq (.ops [⟨(some 2), none, (.mv (.c (.bool false)))⟩]) (.seq (.seq (.ops [⟨(some 3), none, (.mv (.c (.int .i64 0)))⟩]) (.block 0 (.loop (.seq (.seq (.ops [⟨(some 4), none, (.mv (.t 3))⟩, ⟨(some 5), none, (.mv (.t 0))⟩, ⟨(some 6), none, (.len (.t 5))⟩, ⟨(some 7), none, (.bin .lss (.t 4) (.t 6))⟩]) (.cond (.t 7) .skip (.exit 0))) (.seq (.block 1 (.seq (.draw (.q false ⟨(some 10), none, (.mv (.t 0))⟩ (.q false ⟨(some 11), none, (.mv (.t 3))⟩ (.q true ⟨(some 13), none, (.mv (.t 0))⟩ (.q true ⟨(some 14), none, (.mv (.t 3))⟩ (.q true ⟨(some 15), none, (.ix 1 (.t 13) (.t 14))⟩ (.q true ⟨(some 16), none, (.ld false 1 (.t 15))⟩ (.op ⟨(some 12), none, (.sub 1 (.t 10) none (some (.t 11)) none)⟩ (.op ⟨(some 17), none, (.call false 36 [(.t 12), (.t 16)])⟩ .nil))))))))) (.cond (.t 17) (.seq (.ops [⟨(some 2), none, (.mv (.c (.bool false)))⟩]) .ret) .skip))) (.ops [⟨(some 8), none, (.mv (.t 3))⟩, ⟨(some 9), none, (.bin .add (.t 8) (.c (.int .i64 1)))⟩, ⟨(some 3), none, (.mv (.t 9))⟩])))))) (.seq (.ops [⟨(some 2), none, (.mv (.c (.bool true)))⟩]) .ret)))
theorem tr31 : Try.f31.body.bind (trCode Try.prog) = some (strip ac31) := by kernel_rfl
theorem spec31 (l : List Int) : Spec Try.prog 31 [.fz (.sl 1 (l.map encN))] (.fz (.bool (ndB l))) := by
  refine spec_at (n := 17) (ars := [(.t 2)]) (ac := ac31) Try.func31 (by kernel_rfl) (by kernel_rfl) tr31 (by kernel_rfl) ?_
  unfold ac31
  simp -implicitDefEqProofs only [SD, SF, SL, e_nf, reduceCtorEq, implies_true, ↓reduceIte, Nat.reduceEqDiff, Nat.reduceAdd, Nat.reduceMul, Nat.reduceSub, Nat.reduceLeDiff, Nat.reduceLT, Int.reduceLT, Int.reduceLE, Int.reduceEq, Int.reduceToNat, Int.reduceAdd, Int.reduceSub, Int.reduceNeg, Int.reduceBEq, Int.reduceBNe, Nat.reduceBEq, Int.cast_ofNat_Int, decide_true, decide_false, ne_eq, eq_self_iff_true, beq_eq_false_iff_ne, bne_iff_ne, List.replicate]
  refine loop_q (X := List Int × List Int × Unit) (fun n x => l = x.1 ++ x.2.1 ∧ n = x.2.1.length ∧ (x.1.Nodup)) (fun x => [(3, .int .i64 x.1.length)]) (fun _ => []) [2, 4, 5, 6, 7, 8, 9, 10, 11, 12, 13, 14, 15, 16, 17] []  (l).length ([], l, ()) ⟨rfl, rfl, by first | (simp; done) | (rw [nd_snoc]; exact ⟨hI, by simp_all⟩)⟩ ?_ ?_
  · simp -implicitDefEqProofs only [SD, SF, SL, e_nf, reduceCtorEq, implies_true, ↓reduceIte, Nat.reduceEqDiff, Nat.reduceAdd, Nat.reduceMul, Nat.reduceSub, Nat.reduceLeDiff, Nat.reduceLT, Int.reduceLT, Int.reduceLE, Int.reduceEq, Int.reduceToNat, Int.reduceAdd, Int.reduceSub, Int.reduceNeg, Int.reduceBEq, Int.reduceBNe, Nat.reduceBEq, Int.cast_ofNat_Int, decide_true, decide_false, ne_eq, eq_self_iff_true, beq_eq_false_iff_ne, bne_iff_ne, List.replicate] <;> simp
  · rintro n ⟨pre, rest, a⟩ ⟨he, rfl, hI⟩
    dsimp only at he hI
    cases rest with
    | nil =>
      obtain rfl : l = pre := by simpa using he
      clear he
      have hlt : ¬ (((l).length : Int) < ((l).length : Int)) := Int.lt_irrefl _
      iterate 30 (all_goals (try (first
        | ((with_reducible refine of_kSpec ?_)
           refine call_sub (ds' := [.sl 1 (pre.map encN), .int .i64 x]) (spec36 pre x) rfl ?_ ?_
           · simp -implicitDefEqProofs only [SD, SF, SL, e_nf, reduceCtorEq, implies_true, ↓reduceIte, Nat.reduceEqDiff, Nat.reduceAdd, Nat.reduceMul, Nat.reduceSub, Nat.reduceLeDiff, Nat.reduceLT, Int.reduceLT, Int.reduceLE, Int.reduceEq, Int.reduceToNat, Int.reduceAdd, Int.reduceSub, Int.reduceNeg, Int.reduceBEq, Int.reduceBNe, Nat.reduceBEq, Int.cast_ofNat_Int, decide_true, decide_false, ne_eq, eq_self_iff_true, beq_eq_false_iff_ne, bne_iff_ne, List.replicate, *]
             done)
        | (with_reducible refine ite_in (fun _ => ?_) (fun _ => ?_))
        | (with_reducible refine ⟨fun _ => ?_, fun _ => ?_⟩)
        | (with_reducible refine And.intro ?_ ?_)
        | (with_reducible intro _)
        | (with_reducible exact is_in _)
        | (simp -implicitDefEqProofs only [SD, SF, SL, e_nf, reduceCtorEq, implies_true, ↓reduceIte, Nat.reduceEqDiff, Nat.reduceAdd, Nat.reduceMul, Nat.reduceSub, Nat.reduceLeDiff, Nat.reduceLT, Int.reduceLT, Int.reduceLE, Int.reduceEq, Int.reduceToNat, Int.reduceAdd, Int.reduceSub, Int.reduceNeg, Int.reduceBEq, Int.reduceBNe, Nat.reduceBEq, Int.cast_ofNat_Int, decide_true, decide_false, ne_eq, eq_self_iff_true, beq_eq_false_iff_ne, bne_iff_ne, List.replicate, *]))))
      all_goals (simp_all [ndB])

    | cons x rest =>
      have hlt := cut_lt he
      have hx := cutD encN he
      simp only [encN] at hx
      simp -implicitDefEqProofs only [SD, SF, SL, e_nf, reduceCtorEq, implies_true, ↓reduceIte, Nat.reduceEqDiff, Nat.reduceAdd, Nat.reduceMul, Nat.reduceSub, Nat.reduceLeDiff, Nat.reduceLT, Int.reduceLT, Int.reduceLE, Int.reduceEq, Int.reduceToNat, Int.reduceAdd, Int.reduceSub, Int.reduceNeg, Int.reduceBEq, Int.reduceBNe, Nat.reduceBEq, Int.cast_ofNat_Int, decide_true, decide_false, ne_eq, eq_self_iff_true, beq_eq_false_iff_ne, bne_iff_ne, List.replicate, hlt]
      intro hl
      have hw := wrap_len (n := pre.length) (m := (l).length) (cut_lt' he) (by simpa using hl)
      replace he := Hd.mk he
      have htk := take_pre (enc := encN) he.out
      have hle : (pre.length : Int) ≤ l.length := by have := cut_lt' he.out; omega
      iterate 30 (all_goals (try (first
        | ((with_reducible refine back_in rest.length [2, 4, 5, 6, 7, 8, 9, 10, 11, 12, 13, 14, 15, 16, 17] [] (pre ++ [x], rest, a) ?_ ⟨?_, ?_, ?_⟩ ?_)
           · simp
           · exact cut_snoc he.out
           · rfl
           · first | (simp; done) | (rw [nd_snoc]; exact ⟨hI, by simp_all⟩)
           · first | (simp -implicitDefEqProofs only [SD, SF, SL, e_nf, reduceCtorEq, implies_true, ↓reduceIte, Nat.reduceEqDiff, Nat.reduceAdd, Nat.reduceMul, Nat.reduceSub, Nat.reduceLeDiff, Nat.reduceLT, Int.reduceLT, Int.reduceLE, Int.reduceEq, Int.reduceToNat, Int.reduceAdd, Int.reduceSub, Int.reduceNeg, Int.reduceBEq, Int.reduceBNe, Nat.reduceBEq, Int.cast_ofNat_Int, decide_true, decide_false, ne_eq, eq_self_iff_true, beq_eq_false_iff_ne, bne_iff_ne, List.replicate] <;> simp <;> done) | (simp -implicitDefEqProofs only [SD, SF, SL, e_nf, reduceCtorEq, implies_true, ↓reduceIte, Nat.reduceEqDiff, Nat.reduceAdd, Nat.reduceMul, Nat.reduceSub, Nat.reduceLeDiff, Nat.reduceLT, Int.reduceLT, Int.reduceLE, Int.reduceEq, Int.reduceToNat, Int.reduceAdd, Int.reduceSub, Int.reduceNeg, Int.reduceBEq, Int.reduceBNe, Nat.reduceBEq, Int.cast_ofNat_Int, decide_true, decide_false, ne_eq, eq_self_iff_true, beq_eq_false_iff_ne, bne_iff_ne, List.replicate, *] <;> simp_all <;> done))
        | ((with_reducible refine of_kSpec ?_)
           refine call_sub (ds' := [.sl 1 (pre.map encN), .int .i64 x]) (spec36 pre x) rfl ?_ ?_
           · simp -implicitDefEqProofs only [SD, SF, SL, e_nf, reduceCtorEq, implies_true, ↓reduceIte, Nat.reduceEqDiff, Nat.reduceAdd, Nat.reduceMul, Nat.reduceSub, Nat.reduceLeDiff, Nat.reduceLT, Int.reduceLT, Int.reduceLE, Int.reduceEq, Int.reduceToNat, Int.reduceAdd, Int.reduceSub, Int.reduceNeg, Int.reduceBEq, Int.reduceBNe, Nat.reduceBEq, Int.cast_ofNat_Int, decide_true, decide_false, ne_eq, eq_self_iff_true, beq_eq_false_iff_ne, bne_iff_ne, List.replicate, *]
             done)
        | (with_reducible refine ite_in (fun _ => ?_) (fun _ => ?_))
        | (with_reducible refine ⟨fun _ => ?_, fun _ => ?_⟩)
        | (with_reducible refine And.intro ?_ ?_)
        | (with_reducible intro _)
        | (with_reducible exact is_in _)
        | (simp -implicitDefEqProofs only [SD, SF, SL, e_nf, reduceCtorEq, implies_true, ↓reduceIte, Nat.reduceEqDiff, Nat.reduceAdd, Nat.reduceMul, Nat.reduceSub, Nat.reduceLeDiff, Nat.reduceLT, Int.reduceLT, Int.reduceLE, Int.reduceEq, Int.reduceToNat, Int.reduceAdd, Int.reduceSub, Int.reduceNeg, Int.reduceBEq, Int.reduceBNe, Nat.reduceBEq, Int.cast_ofNat_Int, decide_true, decide_false, ne_eq, eq_self_iff_true, beq_eq_false_iff_ne, bne_iff_ne, List.replicate, *]))))
      all_goals (first | omega | (have hq : ¬ l.Nodup := nd_cut he.out (by assumption); simp [ndB, hq]; done))
def ac55 : AC := (.seq (.ops [⟨(some 4), none, (.mv (.c (.int .i64 0)))⟩]) (.seq (.seq (.ops [⟨(some 6), none, (.mv (.t 0))⟩, ⟨(some 7), none, (.len (.t 6))⟩, ⟨(some 8), none, (.mv (.c (.int .i64 0)))⟩]) (.block 0 (.loop (.seq (.ops [⟨(some 9), none, (.bin .lss (.t 8) (.t 7))⟩]) (.seq (.cond (.t 9) .skip (.exit 0)) (.seq (.block 1 (.seq (.ops [⟨(some 10), none, (.mv (.t 8))⟩, ⟨(some 5), none, (.mv (.t 10))⟩]) (.seq (.ops [⟨(some 11), none, (.mv (.t 1))⟩, ⟨(some 12), none, (.mv (.t 0))⟩, ⟨(some 13), none, (.mv (.t 5))⟩, ⟨(some 14), none, (.ix 1 (.t 12) (.t 13))⟩, ⟨(some 15), none, (.ld false 1 (.t 14))⟩, ⟨(some 16), none, (.bin .eql (.t 11) (.t 15))⟩]) (.cond (.t 16) (.seq (.ops [⟨(some 17), none, (.mv (.t 5))⟩, ⟨(some 4), none, (.mv (.t 17))⟩]) .ret) .skip)))) (.ops [⟨(some 18), none, (.bin .add (.t 8) (.c (.int .i64 1)))⟩, ⟨(some 8), none, (.mv (.t 18))⟩]))))))) (.seq (.ops [⟨(some 4), none, (.mv (.c (.int .i64 (-1))))⟩]) .ret)))
theorem tr55 : Try.f55.body.bind (trCode Try.prog) = some (strip ac55) := by kernel_rfl
theorem spec55 (l : List (List UInt8)) (q : (List UInt8)) : Spec Try.prog 55 [.fz (.sl 1 (l.map encS)), .fz (.str q)] (.fz (.int .i64 (idxE l q 0))) := by
  refine spec_at (n := 17) (ars := [(.t 4)]) (ac := ac55) Try.func55 (by kernel_rfl) (by kernel_rfl) tr55 (by kernel_rfl) ?_
  unfold ac55
  simp -implicitDefEqProofs only [SD, SF, SL, e_nf, reduceCtorEq, implies_true, ↓reduceIte, Nat.reduceEqDiff, Nat.reduceAdd, Nat.reduceMul, Nat.reduceSub, Nat.reduceLeDiff, Nat.reduceLT, Int.reduceLT, Int.reduceLE, Int.reduceEq, Int.reduceToNat, Int.reduceAdd, Int.reduceSub, Int.reduceNeg, Int.reduceBEq, Int.reduceBNe, Nat.reduceBEq, Int.cast_ofNat_Int, decide_true, decide_false, ne_eq, eq_self_iff_true, beq_eq_false_iff_ne, bne_iff_ne, List.replicate]
  intro hl
  refine loop_q (X := List (List UInt8) × List (List UInt8) × Unit) (fun n x => l = x.1 ++ x.2.1 ∧ n = x.2.1.length ∧ (idxE l q 0 = idxE x.2.1 q x.1.length)) (fun x => [(8, .int .i64 x.1.length)]) (fun _ => []) [4, 5, 9, 10, 11, 12, 13, 14, 15, 16, 17, 18] []  (l).length ([], l, ()) ⟨rfl, rfl, by first | rfl | (simp_all [idxE]; done)⟩ ?_ ?_
  · simp -implicitDefEqProofs only [SD, SF, SL, e_nf, reduceCtorEq, implies_true, ↓reduceIte, Nat.reduceEqDiff, Nat.reduceAdd, Nat.reduceMul, Nat.reduceSub, Nat.reduceLeDiff, Nat.reduceLT, Int.reduceLT, Int.reduceLE, Int.reduceEq, Int.reduceToNat, Int.reduceAdd, Int.reduceSub, Int.reduceNeg, Int.reduceBEq, Int.reduceBNe, Nat.reduceBEq, Int.cast_ofNat_Int, decide_true, decide_false, ne_eq, eq_self_iff_true, beq_eq_false_iff_ne, bne_iff_ne, List.replicate] <;> simp
  · rintro n ⟨pre, rest, a⟩ ⟨he, rfl, hI⟩
    dsimp only at he hI
    cases rest with
    | nil =>
      obtain rfl : l = pre := by simpa using he
      clear he
      have hlt : ¬ (((l).length : Int) < ((l).length : Int)) := Int.lt_irrefl _
      iterate 30 (all_goals (try (first
        | (with_reducible refine ite_in (fun _ => ?_) (fun _ => ?_))
        | (with_reducible refine ⟨fun _ => ?_, fun _ => ?_⟩)
        | (with_reducible refine And.intro ?_ ?_)
        | (with_reducible intro _)
        | (with_reducible exact is_in _)
        | ((with_reducible refine eq_in ?_); (first | (simp_all [idxE]; done) | (have hq : q = x := by assumption; subst hq; simp_all [idxE]; done)); done)
        | (simp -implicitDefEqProofs only [SD, SF, SL, e_nf, reduceCtorEq, implies_true, ↓reduceIte, Nat.reduceEqDiff, Nat.reduceAdd, Nat.reduceMul, Nat.reduceSub, Nat.reduceLeDiff, Nat.reduceLT, Int.reduceLT, Int.reduceLE, Int.reduceEq, Int.reduceToNat, Int.reduceAdd, Int.reduceSub, Int.reduceNeg, Int.reduceBEq, Int.reduceBNe, Nat.reduceBEq, Int.cast_ofNat_Int, decide_true, decide_false, ne_eq, eq_self_iff_true, beq_eq_false_iff_ne, bne_iff_ne, List.replicate, *]))))
      all_goals (simp_all [idxE])

    | cons x rest =>
      have hlt := cut_lt he
      have hx := cutD encS he
      simp only [encS] at hx
      have hw := wrap_len (n := pre.length) (m := (l).length) (cut_lt' he) (by simpa using hl)
      replace he := Hd.mk he
      iterate 30 (all_goals (try (first
        | ((with_reducible refine back_in rest.length [4, 5, 9, 10, 11, 12, 13, 14, 15, 16, 17, 18] [] (pre ++ [x], rest, a) ?_ ⟨?_, ?_, ?_⟩ ?_)
           · simp
           · exact cut_snoc he.out
           · rfl
           · first | rfl | (simp_all [idxE]; done)
           · first | (simp -implicitDefEqProofs only [SD, SF, SL, e_nf, reduceCtorEq, implies_true, ↓reduceIte, Nat.reduceEqDiff, Nat.reduceAdd, Nat.reduceMul, Nat.reduceSub, Nat.reduceLeDiff, Nat.reduceLT, Int.reduceLT, Int.reduceLE, Int.reduceEq, Int.reduceToNat, Int.reduceAdd, Int.reduceSub, Int.reduceNeg, Int.reduceBEq, Int.reduceBNe, Nat.reduceBEq, Int.cast_ofNat_Int, decide_true, decide_false, ne_eq, eq_self_iff_true, beq_eq_false_iff_ne, bne_iff_ne, List.replicate] <;> simp <;> done) | (simp -implicitDefEqProofs only [SD, SF, SL, e_nf, reduceCtorEq, implies_true, ↓reduceIte, Nat.reduceEqDiff, Nat.reduceAdd, Nat.reduceMul, Nat.reduceSub, Nat.reduceLeDiff, Nat.reduceLT, Int.reduceLT, Int.reduceLE, Int.reduceEq, Int.reduceToNat, Int.reduceAdd, Int.reduceSub, Int.reduceNeg, Int.reduceBEq, Int.reduceBNe, Nat.reduceBEq, Int.cast_ofNat_Int, decide_true, decide_false, ne_eq, eq_self_iff_true, beq_eq_false_iff_ne, bne_iff_ne, List.replicate, *] <;> simp_all <;> done))
        | (with_reducible refine ite_in (fun _ => ?_) (fun _ => ?_))
        | (with_reducible refine ⟨fun _ => ?_, fun _ => ?_⟩)
        | (with_reducible refine And.intro ?_ ?_)
        | (with_reducible intro _)
        | (with_reducible exact is_in _)
        | ((with_reducible refine eq_in ?_); (first | (simp_all [idxE]; done) | (have hq : q = x := by assumption; subst hq; simp_all [idxE]; done)); done)
        | (simp -implicitDefEqProofs only [SD, SF, SL, e_nf, reduceCtorEq, implies_true, ↓reduceIte, Nat.reduceEqDiff, Nat.reduceAdd, Nat.reduceMul, Nat.reduceSub, Nat.reduceLeDiff, Nat.reduceLT, Int.reduceLT, Int.reduceLE, Int.reduceEq, Int.reduceToNat, Int.reduceAdd, Int.reduceSub, Int.reduceNeg, Int.reduceBEq, Int.reduceBNe, Nat.reduceBEq, Int.cast_ofNat_Int, decide_true, decide_false, ne_eq, eq_self_iff_true, beq_eq_false_iff_ne, bne_iff_ne, List.replicate, *]))))
      all_goals (first | (simp_all [idxE]; done) | (have hq : q = x := by assumption; subst hq; simp_all [idxE]; done))
def ac35 : AC := (.seq (.ops [⟨(some 4), none, (.mv (.c (.bool false)))⟩]) (.seq (.ops [⟨(some 5), none, (.mv (.t 0))⟩, ⟨(some 6), none, (.mv (.t 1))⟩, ⟨(some 7), none, (.call false 55 [(.t 5), (.t 6)])⟩, ⟨(some 8), none, (.bin .geq (.t 7) (.c (.int .i64 0)))⟩, ⟨(some 4), none, (.mv (.t 8))⟩]) .ret))
theorem tr35 : Try.f35.body.bind (trCode Try.prog) = some (strip ac35) := by kernel_rfl
theorem spec35 (l : List (List UInt8)) (q : (List UInt8)) : Spec Try.prog 35 [.fz (.sl 1 (l.map encS)), .fz (.str q)] (.fz (.bool (decide (q ∈ l)))) := by
  refine spec_at (n := 7) (ars := [(.t 4)]) (ac := ac35) Try.func35 (by kernel_rfl) (by kernel_rfl) tr35 (by kernel_rfl) ?_
  unfold ac35
  iterate 30 (all_goals (try (first
    | ((with_reducible refine of_kSpec ?_); refine call_fz (spec55 l q) rfl ?_)
    | (with_reducible refine ite_in (fun _ => ?_) (fun _ => ?_))
    | (with_reducible refine ⟨fun _ => ?_, fun _ => ?_⟩)
    | (with_reducible refine And.intro ?_ ?_)
    | (with_reducible intro _)
    | (with_reducible exact is_in _)
    | (simp -implicitDefEqProofs only [SD, SF, SL, e_nf, reduceCtorEq, implies_true, ↓reduceIte, Nat.reduceEqDiff, Nat.reduceAdd, Nat.reduceMul, Nat.reduceSub, Nat.reduceLeDiff, Nat.reduceLT, Int.reduceLT, Int.reduceLE, Int.reduceEq, Int.reduceToNat, Int.reduceAdd, Int.reduceSub, Int.reduceNeg, Int.reduceBEq, Int.reduceBNe, Nat.reduceBEq, Int.cast_ofNat_Int, decide_true, decide_false, ne_eq, eq_self_iff_true, beq_eq_false_iff_ne, bne_iff_ne, List.replicate, idxE_mem, *]))))
  all_goals (simp_all [idxE_mem])
def ac33 : AC := (.seq (.ops [⟨(some 4), none, (.mv (.c (.bool false)))⟩]) (.seq (.seq (.ops [⟨(some 5), none, (.mv (.c (.int .i64 0)))⟩]) (.block 0 (.loop (.seq (.seq (.ops [⟨(some 6), none, (.mv (.t 5))⟩, ⟨(some 7), none, (.mv (.t 0))⟩, ⟨(some 8), none, (.len (.t 7))⟩, ⟨(some 9), none, (.bin .lss (.t 6) (.t 8))⟩]) (.cond (.t 9) .skip (.exit 0))) (.seq (.block 1 (.seq (.ops [⟨(some 12), none, (.mv (.t 0))⟩, ⟨(some 13), none, (.mv (.t 5))⟩, ⟨(some 14), none, (.ix 1 (.t 12) (.t 13))⟩, ⟨(some 15), none, (.ld false 1 (.t 14))⟩, ⟨(some 16), none, (.mv (.t 1))⟩, ⟨(some 17), none, (.bin .eql (.t 15) (.t 16))⟩]) (.cond (.t 17) (.seq (.ops [⟨(some 4), none, (.mv (.c (.bool true)))⟩]) .ret) .skip))) (.ops [⟨(some 10), none, (.mv (.t 5))⟩, ⟨(some 11), none, (.bin .add (.t 10) (.c (.int .i64 1)))⟩, ⟨(some 5), none, (.mv (.t 11))⟩])))))) (.seq (.ops [⟨(some 4), none, (.mv (.c (.bool false)))⟩]) .ret)))
theorem tr33 : Try.f33.body.bind (trCode Try.prog) = some (strip ac33) := by kernel_rfl
theorem spec33 (l : List (List UInt8)) (q : (List UInt8)) : Spec Try.prog 33 [.fz (.sl 1 (l.map encS)), .fz (.str q)] (.fz (.bool (decide (q ∈ l)))) := by
  refine spec_at (n := 16) (ars := [(.t 4)]) (ac := ac33) Try.func33 (by kernel_rfl) (by kernel_rfl) tr33 (by kernel_rfl) ?_
  unfold ac33
  simp -implicitDefEqProofs only [SD, SF, SL, e_nf, reduceCtorEq, implies_true, ↓reduceIte, Nat.reduceEqDiff, Nat.reduceAdd, Nat.reduceMul, Nat.reduceSub, Nat.reduceLeDiff, Nat.reduceLT, Int.reduceLT, Int.reduceLE, Int.reduceEq, Int.reduceToNat, Int.reduceAdd, Int.reduceSub, Int.reduceNeg, Int.reduceBEq, Int.reduceBNe, Nat.reduceBEq, Int.cast_ofNat_Int, decide_true, decide_false, ne_eq, eq_self_iff_true, beq_eq_false_iff_ne, bne_iff_ne, List.replicate]
  refine loop_q (X := List (List UInt8) × List (List UInt8) × Unit) (fun n x => l = x.1 ++ x.2.1 ∧ n = x.2.1.length ∧ (q ∉ x.1)) (fun x => [(5, .int .i64 x.1.length)]) (fun _ => []) [4, 6, 7, 8, 9, 10, 11, 12, 13, 14, 15, 16, 17] []  (l).length ([], l, ()) ⟨rfl, rfl, by first | (simp; done) | (simp_all [List.mem_append]; done) | grind⟩ ?_ ?_
  · simp -implicitDefEqProofs only [SD, SF, SL, e_nf, reduceCtorEq, implies_true, ↓reduceIte, Nat.reduceEqDiff, Nat.reduceAdd, Nat.reduceMul, Nat.reduceSub, Nat.reduceLeDiff, Nat.reduceLT, Int.reduceLT, Int.reduceLE, Int.reduceEq, Int.reduceToNat, Int.reduceAdd, Int.reduceSub, Int.reduceNeg, Int.reduceBEq, Int.reduceBNe, Nat.reduceBEq, Int.cast_ofNat_Int, decide_true, decide_false, ne_eq, eq_self_iff_true, beq_eq_false_iff_ne, bne_iff_ne, List.replicate] <;> simp
  · rintro n ⟨pre, rest, a⟩ ⟨he, rfl, hI⟩
    dsimp only at he hI
    cases rest with
    | nil =>
      obtain rfl : l = pre := by simpa using he
      clear he
      have hlt : ¬ (((l).length : Int) < ((l).length : Int)) := Int.lt_irrefl _
      iterate 30 (all_goals (try (first
        | (with_reducible refine ite_in (fun _ => ?_) (fun _ => ?_))
        | (with_reducible refine ⟨fun _ => ?_, fun _ => ?_⟩)
        | (with_reducible refine And.intro ?_ ?_)
        | (with_reducible intro _)
        | (with_reducible exact is_in _)
        | ((with_reducible refine eq_in ?_); ((have hq := he.out; first | (simp_all; done) | grind)); done)
        | (simp -implicitDefEqProofs only [SD, SF, SL, e_nf, reduceCtorEq, implies_true, ↓reduceIte, Nat.reduceEqDiff, Nat.reduceAdd, Nat.reduceMul, Nat.reduceSub, Nat.reduceLeDiff, Nat.reduceLT, Int.reduceLT, Int.reduceLE, Int.reduceEq, Int.reduceToNat, Int.reduceAdd, Int.reduceSub, Int.reduceNeg, Int.reduceBEq, Int.reduceBNe, Nat.reduceBEq, Int.cast_ofNat_Int, decide_true, decide_false, ne_eq, eq_self_iff_true, beq_eq_false_iff_ne, bne_iff_ne, List.replicate, *]))))
      all_goals (simp_all)

    | cons x rest =>
      have hlt := cut_lt he
      have hx := cutD encS he
      simp only [encS] at hx
      simp -implicitDefEqProofs only [SD, SF, SL, e_nf, reduceCtorEq, implies_true, ↓reduceIte, Nat.reduceEqDiff, Nat.reduceAdd, Nat.reduceMul, Nat.reduceSub, Nat.reduceLeDiff, Nat.reduceLT, Int.reduceLT, Int.reduceLE, Int.reduceEq, Int.reduceToNat, Int.reduceAdd, Int.reduceSub, Int.reduceNeg, Int.reduceBEq, Int.reduceBNe, Nat.reduceBEq, Int.cast_ofNat_Int, decide_true, decide_false, ne_eq, eq_self_iff_true, beq_eq_false_iff_ne, bne_iff_ne, List.replicate, hlt]
      intro hl
      have hw := wrap_len (n := pre.length) (m := (l).length) (cut_lt' he) (by simpa using hl)
      replace he := Hd.mk he
      iterate 30 (all_goals (try (first
        | ((with_reducible refine back_in rest.length [4, 6, 7, 8, 9, 10, 11, 12, 13, 14, 15, 16, 17] [] (pre ++ [x], rest, a) ?_ ⟨?_, ?_, ?_⟩ ?_)
           · simp
           · exact cut_snoc he.out
           · rfl
           · first | (simp; done) | (simp_all [List.mem_append]; done) | grind
           · first | (simp -implicitDefEqProofs only [SD, SF, SL, e_nf, reduceCtorEq, implies_true, ↓reduceIte, Nat.reduceEqDiff, Nat.reduceAdd, Nat.reduceMul, Nat.reduceSub, Nat.reduceLeDiff, Nat.reduceLT, Int.reduceLT, Int.reduceLE, Int.reduceEq, Int.reduceToNat, Int.reduceAdd, Int.reduceSub, Int.reduceNeg, Int.reduceBEq, Int.reduceBNe, Nat.reduceBEq, Int.cast_ofNat_Int, decide_true, decide_false, ne_eq, eq_self_iff_true, beq_eq_false_iff_ne, bne_iff_ne, List.replicate] <;> simp <;> done) | (simp -implicitDefEqProofs only [SD, SF, SL, e_nf, reduceCtorEq, implies_true, ↓reduceIte, Nat.reduceEqDiff, Nat.reduceAdd, Nat.reduceMul, Nat.reduceSub, Nat.reduceLeDiff, Nat.reduceLT, Int.reduceLT, Int.reduceLE, Int.reduceEq, Int.reduceToNat, Int.reduceAdd, Int.reduceSub, Int.reduceNeg, Int.reduceBEq, Int.reduceBNe, Nat.reduceBEq, Int.cast_ofNat_Int, decide_true, decide_false, ne_eq, eq_self_iff_true, beq_eq_false_iff_ne, bne_iff_ne, List.replicate, *] <;> simp_all <;> done))
        | (with_reducible refine ite_in (fun _ => ?_) (fun _ => ?_))
        | (with_reducible refine ⟨fun _ => ?_, fun _ => ?_⟩)
        | (with_reducible refine And.intro ?_ ?_)
        | (with_reducible intro _)
        | (with_reducible exact is_in _)
        | ((with_reducible refine eq_in ?_); ((have hq := he.out; first | (simp_all; done) | grind)); done)
        | (simp -implicitDefEqProofs only [SD, SF, SL, e_nf, reduceCtorEq, implies_true, ↓reduceIte, Nat.reduceEqDiff, Nat.reduceAdd, Nat.reduceMul, Nat.reduceSub, Nat.reduceLeDiff, Nat.reduceLT, Int.reduceLT, Int.reduceLE, Int.reduceEq, Int.reduceToNat, Int.reduceAdd, Int.reduceSub, Int.reduceNeg, Int.reduceBEq, Int.reduceBNe, Nat.reduceBEq, Int.cast_ofNat_Int, decide_true, decide_false, ne_eq, eq_self_iff_true, beq_eq_false_iff_ne, bne_iff_ne, List.replicate, *]))))
      all_goals ((have hq := he.out; first | (simp_all; done) | grind))
def ac29 : AC := (.seq (.ops [⟨(some 2), none, (.mv (.c (.bool false)))⟩]) (.seq (.seq (.ops [⟨(some 5), none, (.mv (.t 0))⟩, ⟨(some 6), none, (.len (.t 5))⟩, ⟨(some 7), none, (.mv (.c (.int .i64 0)))⟩]) (.block 0 (.loop (.seq (.ops [⟨(some 8), none, (.bin .lss (.t 7) (.t 6))⟩]) (.seq (.cond (.t 8) .skip (.exit 0)) (.seq (.block 1 (.seq (.ops [⟨(some 9), none, (.mv (.t 7))⟩, ⟨(some 10), none, (.ix 1 (.t 5) (.t 7))⟩, ⟨(some 11), none, (.ld false 1 (.t 10))⟩, ⟨(some 3), none, (.mv (.t 9))⟩, ⟨(some 4), none, (.mv (.t 11))⟩]) (.seq (.ops [⟨(some 12), none, (.mv (.t 0))⟩, ⟨(some 13), none, (.mv (.t 3))⟩, ⟨(some 14), none, (.sub 1 (.t 12) none (some (.t 13)) none)⟩, ⟨(some 15), none, (.mv (.t 4))⟩, ⟨(some 16), none, (.call false 35 [(.t 14), (.t 15)])⟩]) (.cond (.t 16) (.seq (.ops [⟨(some 2), none, (.mv (.c (.bool true)))⟩]) .ret) .skip)))) (.ops [⟨(some 17), none, (.bin .add (.t 7) (.c (.int .i64 1)))⟩, ⟨(some 7), none, (.mv (.t 17))⟩]))))))) (.seq (.ops [⟨(some 2), none, (.mv (.c (.bool false)))⟩]) .ret)))
theorem tr29 : Try.f29.body.bind (trCode Try.prog) = some (strip ac29) := by kernel_rfl
theorem spec29 (l : List (List UInt8)) : Spec Try.prog 29 [.fz (.sl 1 (l.map encS))] (.fz (.bool ((!ndB l)))) := by
  refine spec_at (n := 17) (ars := [(.t 2)]) (ac := ac29) Try.func29 (by kernel_rfl) (by kernel_rfl) tr29 (by kernel_rfl) ?_
  unfold ac29
  simp -implicitDefEqProofs only [SD, SF, SL, e_nf, reduceCtorEq, implies_true, ↓reduceIte, Nat.reduceEqDiff, Nat.reduceAdd, Nat.reduceMul, Nat.reduceSub, Nat.reduceLeDiff, Nat.reduceLT, Int.reduceLT, Int.reduceLE, Int.reduceEq, Int.reduceToNat, Int.reduceAdd, Int.reduceSub, Int.reduceNeg, Int.reduceBEq, Int.reduceBNe, Nat.reduceBEq, Int.cast_ofNat_Int, decide_true, decide_false, ne_eq, eq_self_iff_true, beq_eq_false_iff_ne, bne_iff_ne, List.replicate]
  intro hl
  refine loop_q (X := List (List UInt8) × List (List UInt8) × Unit) (fun n x => l = x.1 ++ x.2.1 ∧ n = x.2.1.length ∧ (x.1.Nodup)) (fun x => [(7, .int .i64 x.1.length)]) (fun _ => []) [2, 3, 4, 8, 9, 10, 11, 12, 13, 14, 15, 16, 17] []  (l).length ([], l, ()) ⟨rfl, rfl, by first | (simp; done) | (rw [nd_snoc]; exact ⟨hI, by simp_all⟩)⟩ ?_ ?_
  · simp -implicitDefEqProofs only [SD, SF, SL, e_nf, reduceCtorEq, implies_true, ↓reduceIte, Nat.reduceEqDiff, Nat.reduceAdd, Nat.reduceMul, Nat.reduceSub, Nat.reduceLeDiff, Nat.reduceLT, Int.reduceLT, Int.reduceLE, Int.reduceEq, Int.reduceToNat, Int.reduceAdd, Int.reduceSub, Int.reduceNeg, Int.reduceBEq, Int.reduceBNe, Nat.reduceBEq, Int.cast_ofNat_Int, decide_true, decide_false, ne_eq, eq_self_iff_true, beq_eq_false_iff_ne, bne_iff_ne, List.replicate] <;> simp
  · rintro n ⟨pre, rest, a⟩ ⟨he, rfl, hI⟩
    dsimp only at he hI
    cases rest with
    | nil =>
      obtain rfl : l = pre := by simpa using he
      clear he
      have hlt : ¬ (((l).length : Int) < ((l).length : Int)) := Int.lt_irrefl _
      iterate 30 (all_goals (try (first
        | ((with_reducible refine of_kSpec ?_)
           refine call_sub (ds' := [.sl 1 (pre.map encS), .str x]) (spec35 pre x) rfl ?_ ?_
           · simp -implicitDefEqProofs only [SD, SF, SL, e_nf, reduceCtorEq, implies_true, ↓reduceIte, Nat.reduceEqDiff, Nat.reduceAdd, Nat.reduceMul, Nat.reduceSub, Nat.reduceLeDiff, Nat.reduceLT, Int.reduceLT, Int.reduceLE, Int.reduceEq, Int.reduceToNat, Int.reduceAdd, Int.reduceSub, Int.reduceNeg, Int.reduceBEq, Int.reduceBNe, Nat.reduceBEq, Int.cast_ofNat_Int, decide_true, decide_false, ne_eq, eq_self_iff_true, beq_eq_false_iff_ne, bne_iff_ne, List.replicate, *]
             done)
        | (with_reducible refine ite_in (fun _ => ?_) (fun _ => ?_))
        | (with_reducible refine ⟨fun _ => ?_, fun _ => ?_⟩)
        | (with_reducible refine And.intro ?_ ?_)
        | (with_reducible intro _)
        | (with_reducible exact is_in _)
        | (simp -implicitDefEqProofs only [SD, SF, SL, e_nf, reduceCtorEq, implies_true, ↓reduceIte, Nat.reduceEqDiff, Nat.reduceAdd, Nat.reduceMul, Nat.reduceSub, Nat.reduceLeDiff, Nat.reduceLT, Int.reduceLT, Int.reduceLE, Int.reduceEq, Int.reduceToNat, Int.reduceAdd, Int.reduceSub, Int.reduceNeg, Int.reduceBEq, Int.reduceBNe, Nat.reduceBEq, Int.cast_ofNat_Int, decide_true, decide_false, ne_eq, eq_self_iff_true, beq_eq_false_iff_ne, bne_iff_ne, List.replicate, *]))))
      all_goals (simp_all [ndB])

    | cons x rest =>
      have hlt := cut_lt he
      have hx := cutD encS he
      simp only [encS] at hx
      have hw := wrap_len (n := pre.length) (m := (l).length) (cut_lt' he) (by simpa using hl)
      replace he := Hd.mk he
      have htk := take_pre (enc := encS) he.out
      have hle : (pre.length : Int) ≤ l.length := by have := cut_lt' he.out; omega
      iterate 30 (all_goals (try (first
        | ((with_reducible refine back_in rest.length [2, 3, 4, 8, 9, 10, 11, 12, 13, 14, 15, 16, 17] [] (pre ++ [x], rest, a) ?_ ⟨?_, ?_, ?_⟩ ?_)
           · simp
           · exact cut_snoc he.out
           · rfl
           · first | (simp; done) | (rw [nd_snoc]; exact ⟨hI, by simp_all⟩)
           · first | (simp -implicitDefEqProofs only [SD, SF, SL, e_nf, reduceCtorEq, implies_true, ↓reduceIte, Nat.reduceEqDiff, Nat.reduceAdd, Nat.reduceMul, Nat.reduceSub, Nat.reduceLeDiff, Nat.reduceLT, Int.reduceLT, Int.reduceLE, Int.reduceEq, Int.reduceToNat, Int.reduceAdd, Int.reduceSub, Int.reduceNeg, Int.reduceBEq, Int.reduceBNe, Nat.reduceBEq, Int.cast_ofNat_Int, decide_true, decide_false, ne_eq, eq_self_iff_true, beq_eq_false_iff_ne, bne_iff_ne, List.replicate] <;> simp <;> done) | (simp -implicitDefEqProofs only [SD, SF, SL, e_nf, reduceCtorEq, implies_true, ↓reduceIte, Nat.reduceEqDiff, Nat.reduceAdd, Nat.reduceMul, Nat.reduceSub, Nat.reduceLeDiff, Nat.reduceLT, Int.reduceLT, Int.reduceLE, Int.reduceEq, Int.reduceToNat, Int.reduceAdd, Int.reduceSub, Int.reduceNeg, Int.reduceBEq, Int.reduceBNe, Nat.reduceBEq, Int.cast_ofNat_Int, decide_true, decide_false, ne_eq, eq_self_iff_true, beq_eq_false_iff_ne, bne_iff_ne, List.replicate, *] <;> simp_all <;> done))
        | ((with_reducible refine of_kSpec ?_)
           refine call_sub (ds' := [.sl 1 (pre.map encS), .str x]) (spec35 pre x) rfl ?_ ?_
           · simp -implicitDefEqProofs only [SD, SF, SL, e_nf, reduceCtorEq, implies_true, ↓reduceIte, Nat.reduceEqDiff, Nat.reduceAdd, Nat.reduceMul, Nat.reduceSub, Nat.reduceLeDiff, Nat.reduceLT, Int.reduceLT, Int.reduceLE, Int.reduceEq, Int.reduceToNat, Int.reduceAdd, Int.reduceSub, Int.reduceNeg, Int.reduceBEq, Int.reduceBNe, Nat.reduceBEq, Int.cast_ofNat_Int, decide_true, decide_false, ne_eq, eq_self_iff_true, beq_eq_false_iff_ne, bne_iff_ne, List.replicate, *]
             done)
        | (with_reducible refine ite_in (fun _ => ?_) (fun _ => ?_))
        | (with_reducible refine ⟨fun _ => ?_, fun _ => ?_⟩)
        | (with_reducible refine And.intro ?_ ?_)
        | (with_reducible intro _)
        | (with_reducible exact is_in _)
        | (simp -implicitDefEqProofs only [SD, SF, SL, e_nf, reduceCtorEq, implies_true, ↓reduceIte, Nat.reduceEqDiff, Nat.reduceAdd, Nat.reduceMul, Nat.reduceSub, Nat.reduceLeDiff, Nat.reduceLT, Int.reduceLT, Int.reduceLE, Int.reduceEq, Int.reduceToNat, Int.reduceAdd, Int.reduceSub, Int.reduceNeg, Int.reduceBEq, Int.reduceBNe, Nat.reduceBEq, Int.cast_ofNat_Int, decide_true, decide_false, ne_eq, eq_self_iff_true, beq_eq_false_iff_ne, bne_iff_ne, List.replicate, *]))))
      all_goals (first | omega | (have hq : ¬ l.Nodup := nd_cut he.out (by assumption); simp [ndB, hq]; done))
def ac26 : AC := (.seq (.ops [⟨(some 2), none, (.mv (.c (.bool false)))⟩]) (.seq (.ops [⟨(some 3), none, (.mv (.t 0))⟩, ⟨(some 4), none, (.bin .geq (.t 3) (.c (.int .i64 1)))⟩, ⟨(some 5), none, (.mv (.t 4))⟩, ⟨(some 6), (some (5, true)), (.mv (.t 0))⟩, ⟨(some 7), (some (5, true)), (.bin .leq (.t 6) (.c (.int .i64 14)))⟩, ⟨(some 8), none, (.pick (.t 5) (.t 7) (.c (.bool false)))⟩, ⟨(some 2), none, (.mv (.t 8))⟩]) .ret))
theorem tr26 : Try.f26.body.bind (trCode Try.prog) = some (strip ac26) := by kernel_rfl
theorem spec26 (k : Int) : Spec Try.prog 26 [.fz (.int .i64 k)] (.fz (.bool (knB k))) := by
  refine spec_at (n := 8) (ars := [(.t 2)]) (ac := ac26) Try.func26 (by kernel_rfl) (by kernel_rfl) tr26 (by kernel_rfl) ?_
  unfold ac26
  iterate 30 (all_goals (try (first
    | (with_reducible refine ite_in (fun _ => ?_) (fun _ => ?_))
    | (with_reducible refine ⟨fun _ => ?_, fun _ => ?_⟩)
    | (with_reducible refine And.intro ?_ ?_)
    | (with_reducible intro _)
    | (with_reducible exact is_in _)
    | (simp -implicitDefEqProofs only [SD, SF, SL, e_nf, reduceCtorEq, implies_true, ↓reduceIte, Nat.reduceEqDiff, Nat.reduceAdd, Nat.reduceMul, Nat.reduceSub, Nat.reduceLeDiff, Nat.reduceLT, Int.reduceLT, Int.reduceLE, Int.reduceEq, Int.reduceToNat, Int.reduceAdd, Int.reduceSub, Int.reduceNeg, Int.reduceBEq, Int.reduceBNe, Nat.reduceBEq, Int.cast_ofNat_Int, decide_true, decide_false, ne_eq, eq_self_iff_true, beq_eq_false_iff_ne, bne_iff_ne, List.replicate, *]))))
  all_goals (first | (simp_all [knB]; done) | grind [knB])
def ac30 : AC := (.seq (.ops [⟨(some 2), none, (.mv (.c (.bool false)))⟩]) (.seq (.seq (.ops [⟨(some 3), none, (.mv (.c (.int .i64 0)))⟩]) (.block 0 (.loop (.seq (.seq (.ops [⟨(some 4), none, (.mv (.t 3))⟩, ⟨(some 5), none, (.mv (.t 0))⟩, ⟨(some 6), none, (.len (.t 5))⟩, ⟨(some 7), none, (.bin .lss (.t 4) (.t 6))⟩]) (.cond (.t 7) .skip (.exit 0))) (.seq (.block 1 (.seq (.ops [⟨(some 10), none, (.mv (.t 0))⟩, ⟨(some 11), none, (.mv (.t 3))⟩, ⟨(some 12), none, (.ix 1 (.t 10) (.t 11))⟩, ⟨(some 13), none, (.ld false 1 (.t 12))⟩, ⟨(some 14), none, (.bin .lss (.t 13) (.c (.int .i64 1)))⟩, ⟨(some 15), none, (.mv (.t 14))⟩, ⟨(some 16), (some (15, false)), (.mv (.t 0))⟩, ⟨(some 17), (some (15, false)), (.mv (.t 3))⟩, ⟨(some 18), (some (15, false)), (.ix 1 (.t 16) (.t 17))⟩, ⟨(some 19), (some (15, false)), (.ld false 1 (.t 18))⟩, ⟨(some 20), (some (15, false)), (.bin .gtr (.t 19) (.c (.int .i64 14)))⟩, ⟨(some 21), none, (.pick (.t 15) (.c (.bool true)) (.t 20))⟩]) (.cond (.t 21) (.seq (.ops [⟨(some 2), none, (.mv (.c (.bool false)))⟩]) .ret) .skip))) (.ops [⟨(some 8), none, (.mv (.t 3))⟩, ⟨(some 9), none, (.bin .add (.t 8) (.c (.int .i64 1)))⟩, ⟨(some 3), none, (.mv (.t 9))⟩])))))) (.seq (.ops [⟨(some 2), none, (.mv (.c (.bool true)))⟩]) .ret)))
theorem tr30 : Try.f30.body.bind (trCode Try.prog) = some (strip ac30) := by kernel_rfl
theorem spec30 (l : List Int) : Spec Try.prog 30 [.fz (.sl 1 (l.map encN))] (.fz (.bool (l.all knB))) := by
  refine spec_at (n := 21) (ars := [(.t 2)]) (ac := ac30) Try.func30 (by kernel_rfl) (by kernel_rfl) tr30 (by kernel_rfl) ?_
  unfold ac30
  simp -implicitDefEqProofs only [SD, SF, SL, e_nf, reduceCtorEq, implies_true, ↓reduceIte, Nat.reduceEqDiff, Nat.reduceAdd, Nat.reduceMul, Nat.reduceSub, Nat.reduceLeDiff, Nat.reduceLT, Int.reduceLT, Int.reduceLE, Int.reduceEq, Int.reduceToNat, Int.reduceAdd, Int.reduceSub, Int.reduceNeg, Int.reduceBEq, Int.reduceBNe, Nat.reduceBEq, Int.cast_ofNat_Int, decide_true, decide_false, ne_eq, eq_self_iff_true, beq_eq_false_iff_ne, bne_iff_ne, List.replicate]
  refine loop_q (X := List Int × List Int × Unit) (fun n x => l = x.1 ++ x.2.1 ∧ n = x.2.1.length ∧ (x.1.all knB = true)) (fun x => [(3, .int .i64 x.1.length)]) (fun _ => []) [2, 4, 5, 6, 7, 8, 9, 10, 11, 12, 13, 14, 15, 16, 17, 18, 19, 20, 21] []  (l).length ([], l, ()) ⟨rfl, rfl, by first | rfl | exact all_snoc hI (by first | (simp_all [knB]; done) | grind [knB])⟩ ?_ ?_
  · simp -implicitDefEqProofs only [SD, SF, SL, e_nf, reduceCtorEq, implies_true, ↓reduceIte, Nat.reduceEqDiff, Nat.reduceAdd, Nat.reduceMul, Nat.reduceSub, Nat.reduceLeDiff, Nat.reduceLT, Int.reduceLT, Int.reduceLE, Int.reduceEq, Int.reduceToNat, Int.reduceAdd, Int.reduceSub, Int.reduceNeg, Int.reduceBEq, Int.reduceBNe, Nat.reduceBEq, Int.cast_ofNat_Int, decide_true, decide_false, ne_eq, eq_self_iff_true, beq_eq_false_iff_ne, bne_iff_ne, List.replicate] <;> simp
  · rintro n ⟨pre, rest, a⟩ ⟨he, rfl, hI⟩
    dsimp only at he hI
    cases rest with
    | nil =>
      obtain rfl : l = pre := by simpa using he
      clear he
      have hlt : ¬ (((l).length : Int) < ((l).length : Int)) := Int.lt_irrefl _
      iterate 30 (all_goals (try (first
        | (with_reducible refine ite_in (fun _ => ?_) (fun _ => ?_))
        | (with_reducible refine ⟨fun _ => ?_, fun _ => ?_⟩)
        | (with_reducible refine And.intro ?_ ?_)
        | (with_reducible intro _)
        | (with_reducible exact is_in _)
        | ((with_reducible refine eq_in ?_); ((have hq := all_cut (p := knB) he.out (by first | (simp_all [knB]; done) | grind [knB]); simp_all; done)); done)
        | (simp -implicitDefEqProofs only [SD, SF, SL, e_nf, reduceCtorEq, implies_true, ↓reduceIte, Nat.reduceEqDiff, Nat.reduceAdd, Nat.reduceMul, Nat.reduceSub, Nat.reduceLeDiff, Nat.reduceLT, Int.reduceLT, Int.reduceLE, Int.reduceEq, Int.reduceToNat, Int.reduceAdd, Int.reduceSub, Int.reduceNeg, Int.reduceBEq, Int.reduceBNe, Nat.reduceBEq, Int.cast_ofNat_Int, decide_true, decide_false, ne_eq, eq_self_iff_true, beq_eq_false_iff_ne, bne_iff_ne, List.replicate, *]))))
      all_goals (simp_all)

    | cons x rest =>
      have hlt := cut_lt he
      have hx := cutD encN he
      simp only [encN] at hx
      simp -implicitDefEqProofs only [SD, SF, SL, e_nf, reduceCtorEq, implies_true, ↓reduceIte, Nat.reduceEqDiff, Nat.reduceAdd, Nat.reduceMul, Nat.reduceSub, Nat.reduceLeDiff, Nat.reduceLT, Int.reduceLT, Int.reduceLE, Int.reduceEq, Int.reduceToNat, Int.reduceAdd, Int.reduceSub, Int.reduceNeg, Int.reduceBEq, Int.reduceBNe, Nat.reduceBEq, Int.cast_ofNat_Int, decide_true, decide_false, ne_eq, eq_self_iff_true, beq_eq_false_iff_ne, bne_iff_ne, List.replicate, hlt]
      intro hl
      have hw := wrap_len (n := pre.length) (m := (l).length) (cut_lt' he) (by simpa using hl)
      replace he := Hd.mk he
      iterate 30 (all_goals (try (first
        | ((with_reducible refine back_in rest.length [2, 4, 5, 6, 7, 8, 9, 10, 11, 12, 13, 14, 15, 16, 17, 18, 19, 20, 21] [] (pre ++ [x], rest, a) ?_ ⟨?_, ?_, ?_⟩ ?_)
           · simp
           · exact cut_snoc he.out
           · rfl
           · first | rfl | exact all_snoc hI (by first | (simp_all [knB]; done) | grind [knB])
           · first | (simp -implicitDefEqProofs only [SD, SF, SL, e_nf, reduceCtorEq, implies_true, ↓reduceIte, Nat.reduceEqDiff, Nat.reduceAdd, Nat.reduceMul, Nat.reduceSub, Nat.reduceLeDiff, Nat.reduceLT, Int.reduceLT, Int.reduceLE, Int.reduceEq, Int.reduceToNat, Int.reduceAdd, Int.reduceSub, Int.reduceNeg, Int.reduceBEq, Int.reduceBNe, Nat.reduceBEq, Int.cast_ofNat_Int, decide_true, decide_false, ne_eq, eq_self_iff_true, beq_eq_false_iff_ne, bne_iff_ne, List.replicate] <;> simp <;> done) | (simp -implicitDefEqProofs only [SD, SF, SL, e_nf, reduceCtorEq, implies_true, ↓reduceIte, Nat.reduceEqDiff, Nat.reduceAdd, Nat.reduceMul, Nat.reduceSub, Nat.reduceLeDiff, Nat.reduceLT, Int.reduceLT, Int.reduceLE, Int.reduceEq, Int.reduceToNat, Int.reduceAdd, Int.reduceSub, Int.reduceNeg, Int.reduceBEq, Int.reduceBNe, Nat.reduceBEq, Int.cast_ofNat_Int, decide_true, decide_false, ne_eq, eq_self_iff_true, beq_eq_false_iff_ne, bne_iff_ne, List.replicate, *] <;> simp_all <;> done))
        | (with_reducible refine ite_in (fun _ => ?_) (fun _ => ?_))
        | (with_reducible refine ⟨fun _ => ?_, fun _ => ?_⟩)
        | (with_reducible refine And.intro ?_ ?_)
        | (with_reducible intro _)
        | (with_reducible exact is_in _)
        | ((with_reducible refine eq_in ?_); ((have hq := all_cut (p := knB) he.out (by first | (simp_all [knB]; done) | grind [knB]); simp_all; done)); done)
        | (simp -implicitDefEqProofs only [SD, SF, SL, e_nf, reduceCtorEq, implies_true, ↓reduceIte, Nat.reduceEqDiff, Nat.reduceAdd, Nat.reduceMul, Nat.reduceSub, Nat.reduceLeDiff, Nat.reduceLT, Int.reduceLT, Int.reduceLE, Int.reduceEq, Int.reduceToNat, Int.reduceAdd, Int.reduceSub, Int.reduceNeg, Int.reduceBEq, Int.reduceBNe, Nat.reduceBEq, Int.cast_ofNat_Int, decide_true, decide_false, ne_eq, eq_self_iff_true, beq_eq_false_iff_ne, bne_iff_ne, List.replicate, *]))))
      all_goals ((have hq := all_cut (p := knB) he.out (by first | (simp_all [knB]; done) | grind [knB]); simp_all; done))
def ac14 : AC := (.seq (.ops [⟨(some 2), none, (.box (.t 0))⟩, ⟨(some 3), none, (.box (.t 1))⟩, ⟨(some 4), none, (.mv (.c (.bool false)))⟩]) (.seq (.ops [⟨(some 5), none, (.fld 0 (.t 2))⟩, ⟨(some 6), none, (.ld false 1 (.t 5))⟩, ⟨(some 7), none, (.len (.t 6))⟩, ⟨(some 8), none, (.bin .eql (.t 7) (.c (.int .i64 0)))⟩, ⟨(some 9), none, (.mv (.t 8))⟩, ⟨(some 10), (some (9, false)), (.fld 0 (.t 2))⟩, ⟨(some 11), (some (9, false)), (.ld false 1 (.t 10))⟩, ⟨(some 12), (some (9, false)), (.fld 3 (.t 3))⟩, ⟨(some 13), (some (9, false)), (.ld false 1 (.t 12))⟩, ⟨(some 14), (some (9, false)), (.call false 34 [(.t 11), (.t 13)])⟩, ⟨(some 15), none, (.pick (.t 9) (.c (.bool true)) (.t 14))⟩, ⟨(some 16), none, (.mv (.t 15))⟩, ⟨(some 17), (some (16, true)), (.fld 1 (.t 2))⟩, ⟨(some 18), (some (16, true)), (.ld false 1 (.t 17))⟩, ⟨(some 19), (some (16, true)), (.fld 3 (.t 3))⟩, ⟨(some 20), (some (16, true)), (.ld false 1 (.t 19))⟩, ⟨(some 21), (some (16, true)), (.call false 34 [(.t 18), (.t 20)])⟩, ⟨(some 22), (some (16, true)), (.nt (.t 21))⟩, ⟨(some 23), none, (.pick (.t 16) (.t 22) (.c (.bool false)))⟩, ⟨(some 24), none, (.mv (.t 23))⟩, ⟨(some 25), (some (24, true)), (.fld 2 (.t 2))⟩, ⟨(some 26), (some (24, true)), (.ld false 1 (.t 25))⟩, ⟨(some 27), (some (24, true)), (.len (.t 26))⟩, ⟨(some 28), (some (24, true)), (.bin .eql (.t 27) (.c (.int .i64 0)))⟩, ⟨(some 29), (some (24, true)), (.mv (.t 28))⟩, ⟨(some 30), (some (29, false)), (.fld 2 (.t 2))⟩, ⟨(some 31), (some (29, false)), (.ld false 1 (.t 30))⟩, ⟨(some 32), (some (29, false)), (.fld 2 (.t 3))⟩, ⟨(some 33), (some (29, false)), (.ld false 1 (.t 32))⟩, ⟨(some 34), (some (29, false)), (.call false 35 [(.t 31), (.t 33)])⟩, ⟨(some 35), (some (24, true)), (.pick (.t 29) (.c (.bool true)) (.t 34))⟩, ⟨(some 36), none, (.pick (.t 24) (.t 35) (.c (.bool false)))⟩, ⟨(some 4), none, (.mv (.t 36))⟩]) .ret))
theorem tr14 : Try.f14.body.bind (trCode Try.prog) = some (strip ac14) := by kernel_rfl
theorem spec14 (f : Flt) (e : Ev) : Spec Try.prog 14 [.fz (.agg (encFl f)), .fz (.agg (encEv e))] (.fz (.bool (wants f e))) := by
  refine spec_at (n := 35) (ars := [(.t 4)]) (ac := ac14) Try.func14 (by kernel_rfl) (by kernel_rfl) tr14 (by kernel_rfl) ?_
  unfold ac14
  have hk0 : ((f.kinds.length : Int) = 0) = (f.kinds = []) := by simp
  have hs0 : ((f.senders.length : Int) = 0) = (f.senders = []) := by simp
  have hk1 : ((0 : Int) < (f.kinds.length : Int)) = ¬ (f.kinds = []) := by rw [← hk0]; apply propext; omega
  iterate 50 (all_goals (try (first
    | ((with_reducible refine of_kSpec ?_); refine call_fz (spec34 f.kinds e.kind) rfl ?_)
    | ((with_reducible refine of_kSpec ?_); refine call_fz (spec34 f.nots e.kind) rfl ?_)
    | ((with_reducible refine of_kSpec ?_); refine call_fz (spec35 f.senders e.sender) rfl ?_)
    | (with_reducible refine ite_in (fun _ => ?_) (fun _ => ?_))
    | (with_reducible refine ⟨fun _ => ?_, fun _ => ?_⟩)
    | (with_reducible refine And.intro ?_ ?_)
    | (with_reducible intro _)
    | (with_reducible exact is_in _)
    | (simp -implicitDefEqProofs only [SD, SF, SL, e_nf, reduceCtorEq, implies_true, ↓reduceIte, Nat.reduceEqDiff, Nat.reduceAdd, Nat.reduceMul, Nat.reduceSub, Nat.reduceLeDiff, Nat.reduceLT, Int.reduceLT, Int.reduceLE, Int.reduceEq, Int.reduceToNat, Int.reduceAdd, Int.reduceSub, Int.reduceNeg, Int.reduceBEq, Int.reduceBNe, Nat.reduceBEq, Int.cast_ofNat_Int, decide_true, decide_false, ne_eq, eq_self_iff_true, beq_eq_false_iff_ne, bne_iff_ne, List.replicate, encFl, encEv, *]))))
  all_goals (first | (simp_all [wants]; done) | grind [wants])
def ac15 : AC := (.seq (.ops [⟨(some 2), none, (.box (.t 0))⟩, ⟨(some 3), none, (.box (.t 1))⟩, ⟨(some 4), none, (.mv (.c (.bool false)))⟩]) (.seq (.seq (.ops [⟨(some 5), none, (.fld 0 (.t 2))⟩, ⟨(some 6), none, (.ld false 1 (.t 5))⟩, ⟨(some 7), none, (.len (.t 6))⟩, ⟨(some 8), none, (.bin .gtr (.t 7) (.c (.int .i64 0)))⟩, ⟨(some 9), none, (.mv (.t 8))⟩, ⟨(some 10), (some (9, true)), (.fld 0 (.t 2))⟩, ⟨(some 11), (some (9, true)), (.ld false 1 (.t 10))⟩, ⟨(some 12), (some (9, true)), (.fld 3 (.t 3))⟩, ⟨(some 13), (some (9, true)), (.ld false 1 (.t 12))⟩, ⟨(some 14), (some (9, true)), (.call false 36 [(.t 11), (.t 13)])⟩, ⟨(some 15), (some (9, true)), (.nt (.t 14))⟩, ⟨(some 16), none, (.pick (.t 9) (.t 15) (.c (.bool false)))⟩, ⟨(some 17), none, (.mv (.t 16))⟩, ⟨(some 18), (some (17, false)), (.fld 1 (.t 2))⟩, ⟨(some 19), (some (17, false)), (.ld false 1 (.t 18))⟩, ⟨(some 20), (some (17, false)), (.fld 3 (.t 3))⟩, ⟨(some 21), (some (17, false)), (.ld false 1 (.t 20))⟩, ⟨(some 22), (some (17, false)), (.call false 36 [(.t 19), (.t 21)])⟩, ⟨(some 23), none, (.pick (.t 17) (.c (.bool true)) (.t 22))⟩]) (.cond (.t 23) (.seq (.ops [⟨(some 4), none, (.mv (.c (.bool false)))⟩]) .ret) .skip)) (.seq (.ops [⟨(some 24), none, (.fld 2 (.t 2))⟩, ⟨(some 25), none, (.ld false 1 (.t 24))⟩, ⟨(some 26), none, (.len (.t 25))⟩, ⟨(some 27), none, (.bin .eql (.t 26) (.c (.int .i64 0)))⟩, ⟨(some 28), none, (.mv (.t 27))⟩, ⟨(some 29), (some (28, false)), (.fld 2 (.t 2))⟩, ⟨(some 30), (some (28, false)), (.ld false 1 (.t 29))⟩, ⟨(some 31), (some (28, false)), (.fld 2 (.t 3))⟩, ⟨(some 32), (some (28, false)), (.ld false 1 (.t 31))⟩, ⟨(some 33), (some (28, false)), (.call false 33 [(.t 30), (.t 32)])⟩, ⟨(some 34), none, (.pick (.t 28) (.c (.bool true)) (.t 33))⟩, ⟨(some 4), none, (.mv (.t 34))⟩]) .ret)))
theorem tr15 : Try.f15.body.bind (trCode Try.prog) = some (strip ac15) := by kernel_rfl
theorem spec15 (f : Flt) (e : Ev) : Spec Try.prog 15 [.fz (.agg (encFl f)), .fz (.agg (encEv e))] (.fz (.bool (wants f e))) := by
  refine spec_at (n := 33) (ars := [(.t 4)]) (ac := ac15) Try.func15 (by kernel_rfl) (by kernel_rfl) tr15 (by kernel_rfl) ?_
  unfold ac15
  have hk0 : ((f.kinds.length : Int) = 0) = (f.kinds = []) := by simp
  have hs0 : ((f.senders.length : Int) = 0) = (f.senders = []) := by simp
  have hk1 : ((0 : Int) < (f.kinds.length : Int)) = ¬ (f.kinds = []) := by rw [← hk0]; apply propext; omega
  iterate 50 (all_goals (try (first
    | ((with_reducible refine of_kSpec ?_); refine call_fz (spec36 f.kinds e.kind) rfl ?_)
    | ((with_reducible refine of_kSpec ?_); refine call_fz (spec36 f.nots e.kind) rfl ?_)
    | ((with_reducible refine of_kSpec ?_); refine call_fz (spec33 f.senders e.sender) rfl ?_)
    | (with_reducible refine ite_in (fun _ => ?_) (fun _ => ?_))
    | (with_reducible refine ⟨fun _ => ?_, fun _ => ?_⟩)
    | (with_reducible refine And.intro ?_ ?_)
    | (with_reducible intro _)
    | (with_reducible exact is_in _)
    | (simp -implicitDefEqProofs only [SD, SF, SL, e_nf, reduceCtorEq, implies_true, ↓reduceIte, Nat.reduceEqDiff, Nat.reduceAdd, Nat.reduceMul, Nat.reduceSub, Nat.reduceLeDiff, Nat.reduceLT, Int.reduceLT, Int.reduceLE, Int.reduceEq, Int.reduceToNat, Int.reduceAdd, Int.reduceSub, Int.reduceNeg, Int.reduceBEq, Int.reduceBNe, Nat.reduceBEq, Int.cast_ofNat_Int, decide_true, decide_false, ne_eq, eq_self_iff_true, beq_eq_false_iff_ne, bne_iff_ne, List.replicate, encFl, encEv, *]))))
  all_goals (first | (simp_all [wants]; done) | grind [wants])

end Go.Proofs.Ytamcbdflmephdaa.E
