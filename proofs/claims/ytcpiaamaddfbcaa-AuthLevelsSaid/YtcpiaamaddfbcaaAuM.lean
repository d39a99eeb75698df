/-
  AuM: walks of functions of the program at data level.
-/
import Derived.Test.YtcpiaamaddfbcaaProg
import Derived.Test.YtcpiaamaddfbcaaEngZ
import Derived.Test.YtcpiaamaddfbcaaAuL
import Derived.KernelRfl
set_option linter.unusedVariables false
set_option linter.unusedSimpArgs false
namespace Go.Proofs.Ytcpiaamaddfbcaa.E
open Go
set_option maxHeartbeats 4000000
set_option maxRecDepth 100000
set_option linter.unusedSimpArgs false
set_option linter.unusedVariables false
attribute [local congr] c_wp c_ops c_op c_opS c_run c_runS c_dt c_seq c_blk c_loop c_S c_put c_bind c_mv c_pick c_nt c_ng c_bin c_binI c_binS c_beq c_B c_eqa c_hd c_cells c_blkK c_box c_vec c_take c_ld c_ldF c_cellsK c_st c_fld c_fldv c_ix c_ixp c_ixv c_ixs c_sub c_subs c_len c_lens c_src c_dst c_ow c_app c_ext c_mm c_conv c_str c_isn c_fill c_rows c_boxo c_frz c_frzO c_frzA c_frzV c_spec c_specO c_opsP c_opP c_runP c_specP c_Z c_qretP c_fz c_fn c_gv c_cond c_res1 c_resL c_ret c_qret c_ite c_unr c_nx c_bk c_cut c_is
attribute [local irreducible] dwp

theorem colon_cons' {x : UInt8} {t : List UInt8} {mk : Nat} (h : markB (x :: t) mk = true) (hm : mk = 64 ∨ mk = 33) : colonN (x :: t) = colonN t + 1 ∧ colonN t < t.length := by
  simp only [markB, Bool.and_eq_true, decide_eq_true_eq, nameOK, cut3] at h
  obtain ⟨h1, ⟨h2, _⟩, _⟩ := h
  refine ⟨?_, h2⟩
  rw [colon_cons, if_neg]
  rintro rfl
  have : (58 : UInt8).toNat = 58 := rfl
  omega
theorem srv_ref {s : List UInt8} {mk : Nat} (h : markB s mk = true) (hm : mk = 64 ∨ mk = 33) : s.drop (colonN s + 1) = srvOf s ∧ colonN s + 1 ≤ s.length := by
  cases s with
  | nil => simp [markB] at h
  | cons x t =>
    obtain ⟨h1, h2⟩ := colon_cons' h hm
    have hX : (markB (x :: t) 64 || markB (x :: t) 33) = true := by
      rcases hm with rfl | rfl <;> simp [h]
    refine ⟨?_, by simp; omega⟩
    rw [srvOf, hX, h1]
    simp [cut2, h2]
theorem srv_no {s : List UInt8} (h1 : markB s 64 = false) (h2 : markB s 33 = false) : srvOf s = [] := by simp [srvOf, h1, h2]
def ac33 : AC := (.seq (.ops [⟨(some 2), none, (.mv (.c (.str [])))⟩]) (.seq (.seq (.ops [⟨(some 3), none, (.mv (.t 0))⟩, ⟨(some 4), none, (.call false 52 [(.t 3), (.c (.int .u8 64))])⟩, ⟨(some 5), none, (.nt (.t 4))⟩, ⟨(some 6), none, (.mv (.t 5))⟩, ⟨(some 7), (some (6, true)), (.mv (.t 0))⟩, ⟨(some 8), (some (6, true)), (.call false 52 [(.t 7), (.c (.int .u8 33))])⟩, ⟨(some 9), (some (6, true)), (.nt (.t 8))⟩, ⟨(some 10), none, (.pick (.t 6) (.t 9) (.c (.bool false)))⟩]) (.cond (.t 10) (.seq (.ops [⟨(some 2), none, (.mv (.c (.str [])))⟩]) .ret) .skip)) (.seq (.ops [⟨(some 11), none, (.mv (.t 0))⟩, ⟨(some 12), none, (.mv (.t 0))⟩, ⟨(some 13), none, (.call false 53 [(.t 12)])⟩, ⟨(some 14), none, (.bin .add (.t 13) (.c (.int .i64 1)))⟩, ⟨(some 15), none, (.subs (.t 11) (some (.t 14)) none)⟩, ⟨(some 2), none, (.mv (.t 15))⟩]) .ret)))
theorem tr33 : Try.f33.body.bind (trCode Try.prog) = some (strip ac33) := by kernel_rfl
theorem spec33 (s : List UInt8) (hb : s.length ≤ 1000) : Spec Try.prog 33 [.fz (.str s)] (.fz (.str (srvOf s))) := by
  refine spec_at (n := 15) (ars := [(.t 2)]) (ac := ac33) Try.func33 (by kernel_rfl) (by kernel_rfl) tr33 (by kernel_rfl) ?_
  unfold ac33
  have hle := colon_le s
  have hw : IntKind.i64.wrap ((colonN s : Int) + 1) = ((colonN s + 1 : Nat) : Int) := by
    rw [wrap_in (by omega) (by omega)]
    omega
  have h1 := fun h => srv_ref (s := s) (mk := 64) h (.inl rfl)
  have h2 := fun h => srv_ref (s := s) (mk := 33) h (.inr rfl)
  cases m1 : markB s 64
  · cases m2 : markB s 33
    · have hn := srv_no m1 m2
      iterate 30 (all_goals (try (first
        | ((with_reducible refine of_kSpec ?_); refine call_fz (spec64_52 s hb) rfl ?_)
        | ((with_reducible refine of_kSpec ?_); refine call_fz (spec33_52 s hb) rfl ?_)
        | (with_reducible refine ite_in (fun _ => ?_) (fun _ => ?_))
        | (with_reducible refine ⟨fun _ => ?_, fun _ => ?_⟩)
        | (with_reducible refine And.intro ?_ ?_)
        | (with_reducible intro _)
        | (with_reducible exact is_in _)
        | (simp -implicitDefEqProofs only [SD, SF, SL, e_nf, reduceCtorEq, implies_true, ↓reduceIte, Nat.reduceEqDiff, Nat.reduceAdd, Nat.reduceMul, Nat.reduceSub, Nat.reduceLeDiff, Nat.reduceLT, Int.reduceLT, Int.reduceLE, Int.reduceEq, Int.reduceToNat, Int.reduceAdd, Int.reduceSub, Int.reduceNeg, Int.reduceBEq, Int.reduceBNe, Nat.reduceBEq, Int.cast_ofNat_Int, decide_true, decide_false, ne_eq, eq_self_iff_true, beq_eq_false_iff_ne, bne_iff_ne, List.replicate, *]))))
    · obtain ⟨h3, h4⟩ := h2 m2
      iterate 30 (all_goals (try (first
        | ((with_reducible refine of_kSpec ?_); refine call_fz (spec64_52 s hb) rfl ?_)
        | ((with_reducible refine of_kSpec ?_); refine call_fz (spec33_52 s hb) rfl ?_)
        | ((with_reducible refine of_kSpec ?_); refine call_fz (spec53 s) rfl ?_)
        | (with_reducible refine ite_in (fun _ => ?_) (fun _ => ?_))
        | (with_reducible refine ⟨fun _ => ?_, fun _ => ?_⟩)
        | (with_reducible refine And.intro ?_ ?_)
        | (with_reducible intro _)
        | (with_reducible exact is_in _)
        | (simp -implicitDefEqProofs only [SD, SF, SL, e_nf, reduceCtorEq, implies_true, ↓reduceIte, Nat.reduceEqDiff, Nat.reduceAdd, Nat.reduceMul, Nat.reduceSub, Nat.reduceLeDiff, Nat.reduceLT, Int.reduceLT, Int.reduceLE, Int.reduceEq, Int.reduceToNat, Int.reduceAdd, Int.reduceSub, Int.reduceNeg, Int.reduceBEq, Int.reduceBNe, Nat.reduceBEq, Int.cast_ofNat_Int, decide_true, decide_false, ne_eq, eq_self_iff_true, beq_eq_false_iff_ne, bne_iff_ne, List.replicate, List.take_length, *]))))
  · obtain ⟨h3, h4⟩ := h1 m1
    iterate 30 (all_goals (try (first
      | ((with_reducible refine of_kSpec ?_); refine call_fz (spec64_52 s hb) rfl ?_)
      | ((with_reducible refine of_kSpec ?_); refine call_fz (spec53 s) rfl ?_)
      | (with_reducible refine ite_in (fun _ => ?_) (fun _ => ?_))
      | (with_reducible refine ⟨fun _ => ?_, fun _ => ?_⟩)
      | (with_reducible refine And.intro ?_ ?_)
      | (with_reducible intro _)
      | (with_reducible exact is_in _)
      | (simp -implicitDefEqProofs only [SD, SF, SL, e_nf, reduceCtorEq, implies_true, ↓reduceIte, Nat.reduceEqDiff, Nat.reduceAdd, Nat.reduceMul, Nat.reduceSub, Nat.reduceLeDiff, Nat.reduceLT, Int.reduceLT, Int.reduceLE, Int.reduceEq, Int.reduceToNat, Int.reduceAdd, Int.reduceSub, Int.reduceNeg, Int.reduceBEq, Int.reduceBNe, Nat.reduceBEq, Int.cast_ofNat_Int, decide_true, decide_false, ne_eq, eq_self_iff_true, beq_eq_false_iff_ne, bne_iff_ne, List.replicate, List.take_length, *]))))

def ac40 : AC := (.seq (.ops [⟨(some 2), none, (.box (.t 0))⟩, ⟨(some 4), none, (.mv (.c (.bool false)))⟩]) (.seq (.ops [⟨(some 8), none, (.mv (.t 1))⟩, ⟨(some 9), none, (.call false 22 [(.t 8)])⟩, ⟨(some 7), none, (.mv (.t 9))⟩, ⟨(some 10), none, (.ext (.t 7) 0)⟩, ⟨(some 11), none, (.ext (.t 7) 1)⟩, ⟨(some 5), none, (.alloc [(.int .i64 0), (.str []), (.str []), (.int .i64 0), (.bool false), (.str []), (.int .i64 0), (.int .i64 0), .e0, .e0, (.str []), (.int .i64 0), (.int .i64 0), (.bool false), (.str []), .e0, .e0, .e0, .e0, (.int .i64 0), (.int .i64 0), (.int .i64 0), (.int .i64 0), (.int .i64 0), (.int .i64 0), (.int .i64 0), (.int .i64 0), (.str []), (.int .i64 0)])⟩, ⟨none, none, (.sto 29 (.t 5) (.t 10))⟩, ⟨(some 6), none, (.mv (.t 11))⟩]) (.seq (.draw (.q false ⟨(some 12), none, (.mv (.t 6))⟩ (.q false ⟨(some 13), none, (.mv (.t 12))⟩ (.q false ⟨(some 14), (some (13, true)), (.fld 8 (.t 2))⟩ (.q false ⟨(some 15), (some (13, true)), (.ld false 1 (.t 14))⟩ (.op ⟨(some 16), (some (13, true)), (.len (.t 15))⟩ (.q false ⟨(some 17), (some (13, true)), (.bin .eql (.t 16) (.c (.int .i64 1)))⟩ (.q false ⟨(some 18), none, (.pick (.t 13) (.t 17) (.c (.bool false)))⟩ (.q false ⟨(some 19), none, (.mv (.t 18))⟩ (.q false ⟨(some 20), (some (19, true)), (.fld 8 (.t 2))⟩ (.q false ⟨(some 21), (some (19, true)), (.ld false 1 (.t 20))⟩ (.q false ⟨(some 22), (some (19, true)), (.ix 1 (.t 21) (.c (.int .i64 0)))⟩ (.q false ⟨(some 23), (some (19, true)), (.ld false 1 (.t 22))⟩ (.q false ⟨(some 24), (some (19, true)), (.fld 0 (.t 5))⟩ (.q false ⟨(some 25), (some (19, true)), (.ld false 1 (.t 24))⟩ (.q false ⟨(some 26), (some (19, true)), (.bin .eql (.t 23) (.t 25))⟩ (.q false ⟨(some 27), none, (.pick (.t 19) (.t 26) (.c (.bool false)))⟩ (.q false ⟨(some 28), none, (.mv (.t 27))⟩ (.q false ⟨(some 29), (some (28, true)), (.fld 2 (.t 2))⟩ (.q false ⟨(some 30), (some (28, true)), (.ld false 1 (.t 29))⟩ (.q false ⟨(some 31), (some (28, true)), (.fld 2 (.t 5))⟩ (.q false ⟨(some 32), (some (28, true)), (.ld false 1 (.t 31))⟩ (.q false ⟨(some 33), (some (28, true)), (.bin .eql (.t 30) (.t 32))⟩ (.q false ⟨(some 34), none, (.pick (.t 28) (.t 33) (.c (.bool false)))⟩ (.q false ⟨(some 35), none, (.mv (.t 34))⟩ (.q false ⟨(some 36), (some (35, true)), (.fld 5 (.t 2))⟩ (.q false ⟨(some 37), (some (35, true)), (.ld false 1 (.t 36))⟩ (.q false ⟨(some 38), (some (35, true)), (.fld 2 (.t 5))⟩ (.q false ⟨(some 39), (some (35, true)), (.ld false 1 (.t 38))⟩ (.q false ⟨(some 40), (some (35, true)), (.bin .eql (.t 37) (.t 39))⟩ (.q false ⟨(some 41), none, (.pick (.t 35) (.t 40) (.c (.bool false)))⟩ (.q false ⟨(some 42), none, (.mv (.t 41))⟩ (.q false ⟨(some 43), (some (42, true)), (.fld 10 (.t 2))⟩ (.q false ⟨(some 44), (some (42, true)), (.fld 1 (.t 43))⟩ (.q false ⟨(some 45), (some (42, true)), (.ld false 1 (.t 44))⟩ (.q false ⟨(some 46), (some (42, true)), (.bin .eql (.t 45) (.c (.int .i64 3)))⟩ (.q false ⟨(some 47), none, (.pick (.t 42) (.t 46) (.c (.bool false)))⟩ (.q false ⟨(some 48), none, (.mv (.t 47))⟩ (.q false ⟨(some 49), (some (48, true)), (.mv (.t 1))⟩ (.q false ⟨(some 50), (some (48, true)), (.fld 5 (.t 2))⟩ (.q false ⟨(some 51), (some (48, true)), (.ld false 1 (.t 50))⟩ (.op ⟨(some 52), (some (48, true)), (.call false 23 [(.t 49), (.t 51)])⟩ (.q false ⟨(some 53), (some (48, true)), (.nt (.t 52))⟩ (.q false ⟨(some 54), none, (.pick (.t 48) (.t 53) (.c (.bool false)))⟩ (.q false ⟨(some 4), none, (.mv (.t 54))⟩ .nil))))))))))))))))))))))))))))))))))))))))))))) .ret)))
theorem tr40 : Try.f40.body.bind (trCode Try.prog) = some (strip ac40) := by kernel_rfl
theorem spec40 (e : Ev) (es : List Ev) : Spec Try.prog 40 [.fz (.agg (encEv e)), .fz (.sl 29 (es.map encEv))] (.fz (.bool (firstB e es))) := by
  refine spec_at (n := 53) (ars := [(.t 4)]) (ac := ac40) Try.func40 (by kernel_rfl) (by kernel_rfl) tr40 (by kernel_rfl) ?_
  unfold ac40
  rcases hpv : e.prev with _ | ⟨y, _ | ⟨z, l⟩⟩
  · have hf : firstB e es = false := by simp [firstB, hpv]
    iterate 30 (all_goals (try (first
      | ((with_reducible refine of_kSpec ?_); refine call_fz (spec22 es) rfl ?_)
      | (with_reducible refine ite_in (fun _ => ?_) (fun _ => ?_))
      | (with_reducible refine ⟨fun _ => ?_, fun _ => ?_⟩)
      | (with_reducible refine And.intro ?_ ?_)
      | (with_reducible intro _)
      | (with_reducible exact is_in _)
      | (simp -implicitDefEqProofs only [SD, SF, SL, e_nf, reduceCtorEq, implies_true, ↓reduceIte, Nat.reduceEqDiff, Nat.reduceAdd, Nat.reduceMul, Nat.reduceSub, Nat.reduceLeDiff, Nat.reduceLT, Int.reduceLT, Int.reduceLE, Int.reduceEq, Int.reduceToNat, Int.reduceAdd, Int.reduceSub, Int.reduceNeg, Int.reduceBEq, Int.reduceBNe, Nat.reduceBEq, Int.cast_ofNat_Int, decide_true, decide_false, ne_eq, eq_self_iff_true, beq_eq_false_iff_ne, bne_iff_ne, List.replicate, encEv, *]))))
  · have hf : firstB e es = (hasCre es && decide (y = (creEv es).ident) && decide (e.sender = (creEv es).sender) && decide (e.key = (creEv es).sender) && decide (e.n = 3) && !hasMem es e.key) := by simp [firstB, hpv]
    iterate 30 (all_goals (try (first
      | ((with_reducible refine of_kSpec ?_); refine call_fz (spec22 es) rfl ?_)
      | ((with_reducible refine of_kSpec ?_); refine call_fz (spec23 es _) rfl ?_)
      | (with_reducible refine ite_in (fun _ => ?_) (fun _ => ?_))
      | (with_reducible refine ⟨fun _ => ?_, fun _ => ?_⟩)
      | (with_reducible refine And.intro ?_ ?_)
      | (with_reducible intro _)
      | (with_reducible exact is_in _)
      | ((with_reducible refine eq_in ?_); (simp_all); done)
      | (simp -implicitDefEqProofs only [SD, SF, SL, e_nf, reduceCtorEq, implies_true, ↓reduceIte, Nat.reduceEqDiff, Nat.reduceAdd, Nat.reduceMul, Nat.reduceSub, Nat.reduceLeDiff, Nat.reduceLT, Int.reduceLT, Int.reduceLE, Int.reduceEq, Int.reduceToNat, Int.reduceAdd, Int.reduceSub, Int.reduceNeg, Int.reduceBEq, Int.reduceBNe, Nat.reduceBEq, Int.cast_ofNat_Int, decide_true, decide_false, ne_eq, eq_self_iff_true, beq_eq_false_iff_ne, bne_iff_ne, List.replicate, encEv, encN, *]))))
    all_goals (simp_all)
  · have hf : firstB e es = false := by simp [firstB, hpv]
    have hn : ¬ (((y :: z :: l).length : Int) = 1) := by simp only [List.length_cons]; omega
    generalize y :: z :: l = ls at *
    iterate 30 (all_goals (try (first
      | ((with_reducible refine of_kSpec ?_); refine call_fz (spec22 es) rfl ?_)
      | (with_reducible refine ite_in (fun _ => ?_) (fun _ => ?_))
      | (with_reducible refine ⟨fun _ => ?_, fun _ => ?_⟩)
      | (with_reducible refine And.intro ?_ ?_)
      | (with_reducible intro _)
      | (with_reducible exact is_in _)
      | (simp -implicitDefEqProofs only [SD, SF, SL, e_nf, reduceCtorEq, implies_true, ↓reduceIte, Nat.reduceEqDiff, Nat.reduceAdd, Nat.reduceMul, Nat.reduceSub, Nat.reduceLeDiff, Nat.reduceLT, Int.reduceLT, Int.reduceLE, Int.reduceEq, Int.reduceToNat, Int.reduceAdd, Int.reduceSub, Int.reduceNeg, Int.reduceBEq, Int.reduceBNe, Nat.reduceBEq, Int.cast_ofNat_Int, decide_true, decide_false, ne_eq, eq_self_iff_true, beq_eq_false_iff_ne, bne_iff_ne, List.replicate, encEv, *]))))

def ac34 : AC := (.seq (.ops [⟨(some 2), none, (.box (.t 0))⟩, ⟨(some 4), none, (.mv (.c (.bool false)))⟩]) (.seq (.ops [⟨(some 10), none, (.mv (.t 1))⟩, ⟨(some 11), none, (.call false 28 [(.t 10)])⟩, ⟨(some 9), none, (.mv (.t 11))⟩, ⟨(some 12), none, (.ext (.t 9) 0)⟩, ⟨(some 13), none, (.ext (.t 9) 1)⟩, ⟨(some 5), none, (.alloc [(.int .i64 0), (.str []), (.str []), (.int .i64 0), (.bool false), (.str []), (.int .i64 0), (.int .i64 0), .e0, .e0, (.str []), (.int .i64 0), (.int .i64 0), (.bool false), (.str []), .e0, .e0, .e0, .e0, (.int .i64 0), (.int .i64 0), (.int .i64 0), (.int .i64 0), (.int .i64 0), (.int .i64 0), (.int .i64 0), (.int .i64 0), (.str []), (.int .i64 0)])⟩, ⟨none, none, (.sto 29 (.t 5) (.t 12))⟩, ⟨(some 6), none, (.mv (.t 13))⟩]) (.seq (.seq (.draw (.q false ⟨(some 14), none, (.mv (.t 6))⟩ (.q false ⟨(some 15), none, (.nt (.t 14))⟩ (.q false ⟨(some 16), none, (.mv (.t 15))⟩ (.q false ⟨(some 17), (some (16, false)), (.fld 8 (.t 2))⟩ (.q false ⟨(some 18), (some (16, false)), (.ld false 1 (.t 17))⟩ (.op ⟨(some 19), (some (16, false)), (.len (.t 18))⟩ (.q false ⟨(some 20), (some (16, false)), (.bin .neq (.t 19) (.c (.int .i64 1)))⟩ (.q false ⟨(some 21), none, (.pick (.t 16) (.c (.bool true)) (.t 20))⟩ (.q false ⟨(some 22), none, (.mv (.t 21))⟩ (.q false ⟨(some 23), (some (22, false)), (.fld 8 (.t 2))⟩ (.q false ⟨(some 24), (some (22, false)), (.ld false 1 (.t 23))⟩ (.q false ⟨(some 25), (some (22, false)), (.ix 1 (.t 24) (.c (.int .i64 0)))⟩ (.q false ⟨(some 26), (some (22, false)), (.ld false 1 (.t 25))⟩ (.q false ⟨(some 27), (some (22, false)), (.fld 0 (.t 5))⟩ (.q false ⟨(some 28), (some (22, false)), (.ld false 1 (.t 27))⟩ (.q false ⟨(some 29), (some (22, false)), (.bin .neq (.t 26) (.t 28))⟩ (.q false ⟨(some 30), none, (.pick (.t 22) (.c (.bool true)) (.t 29))⟩ (.q false ⟨(some 31), none, (.mv (.t 30))⟩ (.q false ⟨(some 32), (some (31, false)), (.fld 2 (.t 2))⟩ (.q false ⟨(some 33), (some (31, false)), (.ld false 1 (.t 32))⟩ (.q false ⟨(some 34), (some (31, false)), (.fld 2 (.t 5))⟩ (.q false ⟨(some 35), (some (31, false)), (.ld false 1 (.t 34))⟩ (.q false ⟨(some 36), (some (31, false)), (.bin .neq (.t 33) (.t 35))⟩ (.q false ⟨(some 37), none, (.pick (.t 31) (.c (.bool true)) (.t 36))⟩ (.q false ⟨(some 38), none, (.mv (.t 37))⟩ (.q false ⟨(some 39), (some (38, false)), (.fld 5 (.t 2))⟩ (.q false ⟨(some 40), (some (38, false)), (.ld false 1 (.t 39))⟩ (.q false ⟨(some 41), (some (38, false)), (.fld 2 (.t 5))⟩ (.q false ⟨(some 42), (some (38, false)), (.ld false 1 (.t 41))⟩ (.q false ⟨(some 43), (some (38, false)), (.bin .neq (.t 40) (.t 42))⟩ (.q false ⟨(some 44), none, (.pick (.t 38) (.c (.bool true)) (.t 43))⟩ (.q false ⟨(some 45), none, (.mv (.t 44))⟩ (.q false ⟨(some 46), (some (45, false)), (.fld 10 (.t 2))⟩ (.q false ⟨(some 47), (some (45, false)), (.fld 1 (.t 46))⟩ (.q false ⟨(some 48), (some (45, false)), (.ld false 1 (.t 47))⟩ (.q false ⟨(some 49), (some (45, false)), (.bin .neq (.t 48) (.c (.int .i64 3)))⟩ (.q false ⟨(some 50), none, (.pick (.t 45) (.c (.bool true)) (.t 49))⟩ .nil)))))))))))))))))))))))))))))))))))))) (.cond (.t 50) (.seq (.ops [⟨(some 4), none, (.mv (.c (.bool false)))⟩]) .ret) .skip)) (.seq (.seq (.ops [⟨(some 51), none, (.mv (.t 1))⟩, ⟨(some 52), none, (.len (.t 51))⟩, ⟨(some 53), none, (.mv (.c (.int .i64 0)))⟩]) (.block 0 (.loop (.seq (.ops [⟨(some 54), none, (.bin .lss (.t 53) (.t 52))⟩]) (.seq (.cond (.t 54) .skip (.exit 0)) (.seq (.block 1 (.seq (.ops [⟨(some 55), none, (.ix 29 (.t 51) (.t 53))⟩, ⟨(some 56), none, (.ld true 29 (.t 55))⟩, ⟨(some 8), none, (.alloc [(.int .i64 0), (.str []), (.str []), (.int .i64 0), (.bool false), (.str []), (.int .i64 0), (.int .i64 0), .e0, .e0, (.str []), (.int .i64 0), (.int .i64 0), (.bool false), (.str []), .e0, .e0, .e0, .e0, (.int .i64 0), (.int .i64 0), (.int .i64 0), (.int .i64 0), (.int .i64 0), (.int .i64 0), (.int .i64 0), (.int .i64 0), (.str []), (.int .i64 0)])⟩, ⟨none, none, (.sto 29 (.t 8) (.t 56))⟩]) (.seq (.ops [⟨(some 57), none, (.fld 3 (.t 8))⟩, ⟨(some 58), none, (.ld false 1 (.t 57))⟩, ⟨(some 59), none, (.bin .eql (.t 58) (.c (.int .i64 2)))⟩, ⟨(some 60), none, (.mv (.t 59))⟩, ⟨(some 61), (some (60, true)), (.fld 5 (.t 8))⟩, ⟨(some 62), (some (60, true)), (.ld false 1 (.t 61))⟩, ⟨(some 63), (some (60, true)), (.fld 5 (.t 2))⟩, ⟨(some 64), (some (60, true)), (.ld false 1 (.t 63))⟩, ⟨(some 65), (some (60, true)), (.bin .eql (.t 62) (.t 64))⟩, ⟨(some 66), none, (.pick (.t 60) (.t 65) (.c (.bool false)))⟩]) (.cond (.t 66) (.seq (.ops [⟨(some 4), none, (.mv (.c (.bool false)))⟩]) .ret) .skip)))) (.ops [⟨(some 67), none, (.bin .add (.t 53) (.c (.int .i64 1)))⟩, ⟨(some 53), none, (.mv (.t 67))⟩]))))))) (.seq (.ops [⟨(some 4), none, (.mv (.c (.bool true)))⟩]) .ret)))))
theorem tr34 : Try.f34.body.bind (trCode Try.prog) = some (strip ac34) := by kernel_rfl
theorem spec34 (e : Ev) (es : List Ev) : Spec Try.prog 34 [.fz (.agg (encEv e)), .fz (.sl 29 (es.map encEv))] (.fz (.bool (firstB e es))) := by
  refine spec_at (n := 66) (ars := [(.t 4)]) (ac := ac34) Try.func34 (by kernel_rfl) (by kernel_rfl) tr34 (by kernel_rfl) ?_
  unfold ac34
  rcases hpv : e.prev with _ | ⟨y, _ | ⟨z, l⟩⟩
  · have hf : firstB e es = false := by simp [firstB, hpv]
    iterate 30 (all_goals (try (first
      | ((with_reducible refine of_kSpec ?_); refine call_fz (spec28 es) rfl ?_)
      | (with_reducible refine ite_in (fun _ => ?_) (fun _ => ?_))
      | (with_reducible refine ⟨fun _ => ?_, fun _ => ?_⟩)
      | (with_reducible refine And.intro ?_ ?_)
      | (with_reducible intro _)
      | (with_reducible exact is_in _)
      | (simp -implicitDefEqProofs only [SD, SF, SL, e_nf, reduceCtorEq, implies_true, ↓reduceIte, Nat.reduceEqDiff, Nat.reduceAdd, Nat.reduceMul, Nat.reduceSub, Nat.reduceLeDiff, Nat.reduceLT, Int.reduceLT, Int.reduceLE, Int.reduceEq, Int.reduceToNat, Int.reduceAdd, Int.reduceSub, Int.reduceNeg, Int.reduceBEq, Int.reduceBNe, Nat.reduceBEq, Int.cast_ofNat_Int, decide_true, decide_false, ne_eq, eq_self_iff_true, beq_eq_false_iff_ne, bne_iff_ne, List.replicate, encEv, *]))))
  · have hf : firstB e es = (hasCre es && decide (y = (creEv es).ident) && decide (e.sender = (creEv es).sender) && decide (e.key = (creEv es).sender) && decide (e.n = 3) && !hasMem es e.key) := by simp [firstB, hpv]
    by_cases hc : hasCre es = true ∧ y = (creEv es).ident ∧ e.sender = (creEv es).sender ∧ e.key = (creEv es).sender ∧ e.n = 3
    · have hf : firstB e es = !hasMem es (creEv es).sender := by rw [hf]; simp [hc]
      obtain ⟨hc1, rfl, hc3, hc4, hc5⟩ := hc
      iterate 30 (all_goals (try (first
        | ((with_reducible refine of_kSpec ?_); refine call_fz (spec28 es) rfl ?_)
        | (with_reducible refine ite_in (fun _ => ?_) (fun _ => ?_))
        | (with_reducible refine ⟨fun _ => ?_, fun _ => ?_⟩)
        | (with_reducible refine And.intro ?_ ?_)
        | (with_reducible intro _)
        | (with_reducible exact is_in _)
        | (simp -implicitDefEqProofs only [SD, SF, SL, e_nf, reduceCtorEq, implies_true, ↓reduceIte, Nat.reduceEqDiff, Nat.reduceAdd, Nat.reduceMul, Nat.reduceSub, Nat.reduceLeDiff, Nat.reduceLT, Int.reduceLT, Int.reduceLE, Int.reduceEq, Int.reduceToNat, Int.reduceAdd, Int.reduceSub, Int.reduceNeg, Int.reduceBEq, Int.reduceBNe, Nat.reduceBEq, Int.cast_ofNat_Int, decide_true, decide_false, ne_eq, eq_self_iff_true, beq_eq_false_iff_ne, bne_iff_ne, List.replicate, encEv, encN, *]))))
      rename_i hl
      clear hc4
      refine loop_q (X := List Ev × List Ev × Unit) (fun n x => es = x.1 ++ x.2.1 ∧ n = x.2.1.length ∧ (hasMem es (creEv es).sender = hasMem x.2.1 (creEv es).sender)) (fun x => [(53, .int .i64 x.1.length)]) (fun _ => []) [4, 8, 54, 55, 56, 57, 58, 59, 60, 61, 62, 63, 64, 65, 66, 67] [8] (es).length ([], es, ()) ⟨rfl, rfl, by first | rfl | assumption | (simp_all [hasMem]; done) | grind [hasMem]⟩ ?_ ?_
      · simp -implicitDefEqProofs only [SD, SF, SL, e_nf, reduceCtorEq, implies_true, ↓reduceIte, Nat.reduceEqDiff, Nat.reduceAdd, Nat.reduceMul, Nat.reduceSub, Nat.reduceLeDiff, Nat.reduceLT, Int.reduceLT, Int.reduceLE, Int.reduceEq, Int.reduceToNat, Int.reduceAdd, Int.reduceSub, Int.reduceNeg, Int.reduceBEq, Int.reduceBNe, Nat.reduceBEq, Int.cast_ofNat_Int, decide_true, decide_false, ne_eq, eq_self_iff_true, beq_eq_false_iff_ne, bne_iff_ne, List.replicate, hasMem] <;> simp
      · rintro n ⟨pre, rest, a⟩ ⟨he, rfl, hI⟩
        dsimp only at he hI
        cases rest with
        | nil =>
          obtain rfl : es = pre := by simpa using he
          clear he
          have hlt : ¬ (((es).length : Int) < ((es).length : Int)) := Int.lt_irrefl _
          iterate 30 (all_goals (try (first
            | (with_reducible refine ite_in (fun _ => ?_) (fun _ => ?_))
            | (with_reducible refine ⟨fun _ => ?_, fun _ => ?_⟩)
            | (with_reducible refine And.intro ?_ ?_)
            | (with_reducible intro _)
            | (with_reducible exact is_in _)
            | (simp -implicitDefEqProofs only [SD, SF, SL, e_nf, reduceCtorEq, implies_true, ↓reduceIte, Nat.reduceEqDiff, Nat.reduceAdd, Nat.reduceMul, Nat.reduceSub, Nat.reduceLeDiff, Nat.reduceLT, Int.reduceLT, Int.reduceLE, Int.reduceEq, Int.reduceToNat, Int.reduceAdd, Int.reduceSub, Int.reduceNeg, Int.reduceBEq, Int.reduceBNe, Nat.reduceBEq, Int.cast_ofNat_Int, decide_true, decide_false, ne_eq, eq_self_iff_true, beq_eq_false_iff_ne, bne_iff_ne, List.replicate, hasMem, *]))))
          all_goals (simp_all [hasMem])

        | cons x rest =>
          have hlt := cut_lt he
          have hx := cutD encEv he
          simp only [encEv] at hx
          have hw := wrap_len (n := pre.length) (m := (es).length) (cut_lt' he) (by simpa using hl)
          replace he := Hd.mk he
          iterate 30 (all_goals (try (first
            | ((with_reducible refine back_in rest.length [4, 8, 54, 55, 56, 57, 58, 59, 60, 61, 62, 63, 64, 65, 66, 67] [8] (pre ++ [x], rest, a) ?_ ⟨?_, ?_, ?_⟩ ?_)
               · simp
               · exact cut_snoc he.out
               · rfl
               · first | rfl | assumption | (simp_all [hasMem]; done) | grind [hasMem]
               · first | (simp -implicitDefEqProofs only [SD, SF, SL, e_nf, reduceCtorEq, implies_true, ↓reduceIte, Nat.reduceEqDiff, Nat.reduceAdd, Nat.reduceMul, Nat.reduceSub, Nat.reduceLeDiff, Nat.reduceLT, Int.reduceLT, Int.reduceLE, Int.reduceEq, Int.reduceToNat, Int.reduceAdd, Int.reduceSub, Int.reduceNeg, Int.reduceBEq, Int.reduceBNe, Nat.reduceBEq, Int.cast_ofNat_Int, decide_true, decide_false, ne_eq, eq_self_iff_true, beq_eq_false_iff_ne, bne_iff_ne, List.replicate, hasMem] <;> simp <;> done) | (simp -implicitDefEqProofs only [SD, SF, SL, e_nf, reduceCtorEq, implies_true, ↓reduceIte, Nat.reduceEqDiff, Nat.reduceAdd, Nat.reduceMul, Nat.reduceSub, Nat.reduceLeDiff, Nat.reduceLT, Int.reduceLT, Int.reduceLE, Int.reduceEq, Int.reduceToNat, Int.reduceAdd, Int.reduceSub, Int.reduceNeg, Int.reduceBEq, Int.reduceBNe, Nat.reduceBEq, Int.cast_ofNat_Int, decide_true, decide_false, ne_eq, eq_self_iff_true, beq_eq_false_iff_ne, bne_iff_ne, List.replicate, hasMem, *] <;> simp_all <;> done))
            | (with_reducible refine ite_in (fun _ => ?_) (fun _ => ?_))
            | (with_reducible refine ⟨fun _ => ?_, fun _ => ?_⟩)
            | (with_reducible refine And.intro ?_ ?_)
            | (with_reducible intro _)
            | (with_reducible exact is_in _)
            | (simp -implicitDefEqProofs only [SD, SF, SL, e_nf, reduceCtorEq, implies_true, ↓reduceIte, Nat.reduceEqDiff, Nat.reduceAdd, Nat.reduceMul, Nat.reduceSub, Nat.reduceLeDiff, Nat.reduceLT, Int.reduceLT, Int.reduceLE, Int.reduceEq, Int.reduceToNat, Int.reduceAdd, Int.reduceSub, Int.reduceNeg, Int.reduceBEq, Int.reduceBNe, Nat.reduceBEq, Int.cast_ofNat_Int, decide_true, decide_false, ne_eq, eq_self_iff_true, beq_eq_false_iff_ne, bne_iff_ne, List.replicate, hasMem, *]))))
          all_goals (simp_all [hasMem])
    · have hf : firstB e es = false := by
        rw [hf]
        cases h1 : hasCre es <;> simp [h1] <;> grind
      iterate 30 (all_goals (try (first
        | ((with_reducible refine of_kSpec ?_); refine call_fz (spec28 es) rfl ?_)
        | (with_reducible refine ite_in (fun _ => ?_) (fun _ => ?_))
        | (with_reducible refine ⟨fun _ => ?_, fun _ => ?_⟩)
        | (with_reducible refine And.intro ?_ ?_)
        | (with_reducible intro _)
        | (with_reducible exact is_in _)
        | ((with_reducible refine eq_in ?_); (first | (simp_all; done) | grind); done)
        | (simp -implicitDefEqProofs only [SD, SF, SL, e_nf, reduceCtorEq, implies_true, ↓reduceIte, Nat.reduceEqDiff, Nat.reduceAdd, Nat.reduceMul, Nat.reduceSub, Nat.reduceLeDiff, Nat.reduceLT, Int.reduceLT, Int.reduceLE, Int.reduceEq, Int.reduceToNat, Int.reduceAdd, Int.reduceSub, Int.reduceNeg, Int.reduceBEq, Int.reduceBNe, Nat.reduceBEq, Int.cast_ofNat_Int, decide_true, decide_false, ne_eq, eq_self_iff_true, beq_eq_false_iff_ne, bne_iff_ne, List.replicate, encEv, encN, *]))))
      all_goals (first | (simp_all; done) | grind)
  · have hf : firstB e es = false := by simp [firstB, hpv]
    have hn : ¬ (((y :: z :: l).length : Int) = 1) := by simp only [List.length_cons]; omega
    generalize y :: z :: l = ls at *
    iterate 30 (all_goals (try (first
      | ((with_reducible refine of_kSpec ?_); refine call_fz (spec28 es) rfl ?_)
      | (with_reducible refine ite_in (fun _ => ?_) (fun _ => ?_))
      | (with_reducible refine ⟨fun _ => ?_, fun _ => ?_⟩)
      | (with_reducible refine And.intro ?_ ?_)
      | (with_reducible intro _)
      | (with_reducible exact is_in _)
      | (simp -implicitDefEqProofs only [SD, SF, SL, e_nf, reduceCtorEq, implies_true, ↓reduceIte, Nat.reduceEqDiff, Nat.reduceAdd, Nat.reduceMul, Nat.reduceSub, Nat.reduceLeDiff, Nat.reduceLT, Int.reduceLT, Int.reduceLE, Int.reduceEq, Int.reduceToNat, Int.reduceAdd, Int.reduceSub, Int.reduceNeg, Int.reduceBEq, Int.reduceBNe, Nat.reduceBEq, Int.cast_ofNat_Int, decide_true, decide_false, ne_eq, eq_self_iff_true, beq_eq_false_iff_ne, bne_iff_ne, List.replicate, encEv, *]))))


end Go.Proofs.Ytcpiaamaddfbcaa.E
