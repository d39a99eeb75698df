/-
  FiC7: walks of functions of the program at data level.
-/
import Derived.Test.YtamcbdflmephdaaProg
import Derived.Test.YtamcbdflmephdaaEngZ
import Derived.Test.YtamcbdflmephdaaFiC3
import Derived.Test.YtamcbdflmephdaaFiA2
import Derived.Test.YtamcbdflmephdaaFiQ
import Derived.KernelRfl
set_option linter.unusedVariables false
set_option linter.unusedSimpArgs false
namespace Go.Proofs.Ytamcbdflmephdaa.E
open Go
set_option maxHeartbeats 4000000
set_option maxRecDepth 100000
set_option linter.unusedSimpArgs false
set_option linter.unusedVariables false
attribute [local congr] c_wp c_ops c_op c_opS c_run c_runS c_dt c_seq c_blk c_loop c_S c_put c_bind c_mv c_pick c_nt c_ng c_bin c_binI c_binS c_beq c_B c_eqa c_hd c_cells c_blkK c_box c_vec c_mp c_nck c_mks c_appn c_mkm c_mput c_mlk c_mrm c_take c_ld c_ldF c_cellsK c_st c_fld c_fldv c_ix c_ixp c_ixv c_ixs c_sub c_subs c_len c_lens c_src c_dst c_ow c_app c_ext c_mm c_conv c_str c_isn c_fill c_rows c_boxo c_frz c_frzO c_frzA c_frzV c_spec c_specO c_opsP c_opP c_runP c_specP c_Z c_qretP c_fz c_fn c_gv c_cond c_res1 c_resL c_ret c_qret c_ite c_unr c_nx c_bk c_cut c_is
attribute [local irreducible] dwp
theorem wK_both (u v : List Int) (x : Int) : ((decide (u = []) || decide (x ∈ u)) && (decide (v = []) || decide (x ∈ v))) = ((bothE u v).2 && (decide ((bothE u v).1 = []) || decide (x ∈ (bothE u v).1))) := by
  unfold bothE
  by_cases hu : u = []
  · simp [hu]
  · by_cases hv : v = []
    · simp [hu, hv]
    · simp only [hu, hv, if_false, decide_false, Bool.false_or]
      have hm : x ∈ inB u v ↔ x ∈ u ∧ x ∈ v := by simp [inB]
      by_cases hi : inB u v = []
      · have : ¬ (x ∈ u ∧ x ∈ v) := by rw [← hm, hi]; simp
        rw [Bool.eq_iff_iff]
        simp [hi]
        exact fun h1 h2 => this ⟨h1, h2⟩
      · rw [Bool.eq_iff_iff]
        simp [hi, hm]
theorem wK_bothS (u v : List (List UInt8)) (x : List UInt8) : ((decide (u = []) || decide (x ∈ u)) && (decide (v = []) || decide (x ∈ v))) = ((bothE u v).2 && (decide ((bothE u v).1 = []) || decide (x ∈ (bothE u v).1))) := by
  unfold bothE
  by_cases hu : u = []
  · simp [hu]
  · by_cases hv : v = []
    · simp [hu, hv]
    · simp only [hu, hv, if_false, decide_false, Bool.false_or]
      have hm : x ∈ inB u v ↔ x ∈ u ∧ x ∈ v := by simp [inB]
      by_cases hi : inB u v = []
      · have : ¬ (x ∈ u ∧ x ∈ v) := by rw [← hm, hi]; simp
        rw [Bool.eq_iff_iff]
        simp [hi]
        exact fun h1 h2 => this ⟨h1, h2⟩
      · rw [Bool.eq_iff_iff]
        simp [hi, hm]
theorem every_mem {k : Int} (h1 : 1 ≤ k) (h2 : k ≤ 14) : k ∈ everyL := by
  simp only [everyL, List.mem_cons, List.not_mem_nil, or_false]
  omega
theorem wants_and (a b : Flt) (e : Ev) (h1 : 1 ≤ e.kind) (h2 : e.kind ≤ 14) : wants (andL a b) e = (wants a e && wants b e) := by
  have hk := wK_both a.kinds b.kinds e.kind
  have hs := wK_bothS a.senders b.senders e.sender
  have hn : decide (e.kind ∈ a.nots ++ ninL a.nots b.nots) = (decide (e.kind ∈ a.nots) || decide (e.kind ∈ b.nots)) := by
    rw [Bool.eq_iff_iff]
    simp only [ninL, List.mem_append, List.mem_filter, decide_eq_true_eq, Bool.or_eq_true]
    by_cases h : e.kind ∈ a.nots <;> simp [h]
  have hR : (wants a e && wants b e) = (((decide (a.kinds = []) || decide (e.kind ∈ a.kinds)) && (decide (b.kinds = []) || decide (e.kind ∈ b.kinds))) && !(decide (e.kind ∈ a.nots) || decide (e.kind ∈ b.nots)) && ((decide (a.senders = []) || decide (e.sender ∈ a.senders)) && (decide (b.senders = []) || decide (e.sender ∈ b.senders)))) := by
    unfold wants
    simp only [Bool.not_or]
    ac_rfl
  rw [hR, hk, hs]
  unfold andL
  by_cases c1 : (bothE a.kinds b.kinds).2 = true
  · by_cases c2 : (bothE a.senders b.senders).2 = true
    · rw [if_neg (by rw [c1, c2]; decide)]
      unfold wants
      simp only [hn, c1, c2, Bool.true_and]
    · have c2' : (bothE a.senders b.senders).2 = false := by simpa using c2
      rw [if_pos (by rw [c1, c2']; decide)]
      unfold wants
      simp only [c2', every_mem h1 h2, decide_true, Bool.not_true, Bool.and_false, Bool.false_and]
  · have c1' : (bothE a.kinds b.kinds).2 = false := by simpa using c1
    rw [if_pos (by rw [c1']; rfl)]
    unfold wants
    simp only [c1', every_mem h1 h2, decide_true, Bool.not_true, Bool.and_false, Bool.false_and]
def ac7 : AC := (.seq (.ops [⟨(some 3), none, (.box (.t 0))⟩, ⟨(some 4), none, (.box (.t 1))⟩, ⟨(some 5), none, (.box (.t 2))⟩, ⟨(some 6), none, (.mv (.c (.bool false)))⟩]) (.seq (.seq (.ops [⟨(some 8), none, (.ld true 5 (.t 3))⟩, ⟨(some 9), none, (.call false 9 [(.t 8)])⟩, ⟨(some 10), none, (.nt (.t 9))⟩, ⟨(some 11), none, (.mv (.t 10))⟩, ⟨(some 12), (some (11, false)), (.ld true 5 (.t 4))⟩, ⟨(some 13), (some (11, false)), (.call false 9 [(.t 12)])⟩, ⟨(some 14), (some (11, false)), (.nt (.t 13))⟩, ⟨(some 15), none, (.pick (.t 11) (.c (.bool true)) (.t 14))⟩, ⟨(some 16), none, (.mv (.t 15))⟩, ⟨(some 17), (some (16, false)), (.ld true 29 (.t 5))⟩, ⟨(some 18), (some (16, false)), (.buildSl 41 29 1 [(.int .i64 0), (.str []), (.str []), (.int .i64 0), (.bool false), (.str []), (.int .i64 0), (.int .i64 0), .e0, .e0, (.str []), (.int .i64 0), (.int .i64 0), (.bool false), (.str []), .e0, .e0, .e0, .e0, (.int .i64 0), (.int .i64 0), (.int .i64 0), (.int .i64 0), (.int .i64 0), (.int .i64 0), (.int .i64 0), (.int .i64 0), (.str []), (.int .i64 0)] [(0, (.t 17))])⟩, ⟨(some 19), (some (16, false)), (.call false 13 [(.t 18)])⟩, ⟨(some 20), (some (16, false)), (.nt (.t 19))⟩, ⟨(some 21), none, (.pick (.t 16) (.c (.bool true)) (.t 20))⟩]) (.cond (.t 21) (.seq (.ops [⟨(some 22), none, (.call false 10 [])⟩, ⟨(some 6), none, (.mv (.t 22))⟩]) .ret) .skip)) (.seq (.ops [⟨(some 23), none, (.ld true 5 (.t 3))⟩, ⟨(some 24), none, (.ld true 5 (.t 4))⟩, ⟨(some 25), none, (.call false 21 [(.t 23), (.t 24)])⟩, ⟨(some 7), none, (.alloc [.e0, .e0, .e0, (.int .i64 0), (.bool false)])⟩, ⟨none, none, (.sto 5 (.t 7) (.t 25))⟩]) (.seq (.seq (.draw (.q false ⟨(some 26), none, (.ld true 5 (.t 7))⟩ (.q false ⟨(some 27), none, (.ld true 5 (.t 3))⟩ (.q false ⟨(some 28), none, (.ld true 5 (.t 4))⟩ (.op ⟨(some 29), none, (.call false 23 [(.t 27), (.t 28)])⟩ (.op ⟨(some 30), none, (.call false 22 [(.t 26), (.t 29)])⟩ (.q false ⟨(some 31), none, (.nt (.t 30))⟩ .nil))))))) (.cond (.t 31) (.seq (.ops [⟨(some 6), none, (.mv (.c (.bool false)))⟩]) .ret) .skip)) (.seq (.seq (.ops [⟨(some 32), none, (.fld 3 (.t 5))⟩, ⟨(some 33), none, (.ld false 1 (.t 32))⟩, ⟨(some 34), none, (.bin .lss (.t 33) (.c (.int .i64 1)))⟩, ⟨(some 35), none, (.mv (.t 34))⟩, ⟨(some 36), (some (35, false)), (.fld 3 (.t 5))⟩, ⟨(some 37), (some (35, false)), (.ld false 1 (.t 36))⟩, ⟨(some 38), (some (35, false)), (.bin .gtr (.t 37) (.c (.int .i64 14)))⟩, ⟨(some 39), none, (.pick (.t 35) (.c (.bool true)) (.t 38))⟩]) (.cond (.t 39) (.seq (.ops [⟨(some 40), none, (.call false 10 [])⟩, ⟨(some 6), none, (.mv (.t 40))⟩]) .ret) .skip)) (.seq (.draw (.q false ⟨(some 41), none, (.ld true 5 (.t 7))⟩ (.q false ⟨(some 42), none, (.ld true 29 (.t 5))⟩ (.q false ⟨(some 44), none, (.ld true 5 (.t 3))⟩ (.q false ⟨(some 45), none, (.ld true 29 (.t 5))⟩ (.op ⟨(some 43), none, (.call false 14 [(.t 41), (.t 42)])⟩ (.op ⟨(some 46), none, (.call false 14 [(.t 44), (.t 45)])⟩ (.q false ⟨(some 47), none, (.mv (.t 46))⟩ (.q false ⟨(some 48), (some (47, true)), (.ld true 5 (.t 4))⟩ (.q false ⟨(some 49), (some (47, true)), (.ld true 29 (.t 5))⟩ (.op ⟨(some 50), (some (47, true)), (.call false 14 [(.t 48), (.t 49)])⟩ (.q false ⟨(some 51), none, (.pick (.t 47) (.t 50) (.c (.bool false)))⟩ (.q false ⟨(some 52), none, (.beq false (.t 43) (.t 51))⟩ (.q false ⟨(some 53), none, (.mv (.t 52))⟩ (.op ⟨(some 54), (some (53, true)), (.call false 10 [])⟩ (.q false ⟨(some 55), none, (.pick (.t 53) (.t 54) (.c (.bool false)))⟩ (.q false ⟨(some 6), none, (.mv (.t 55))⟩ .nil))))))))))))))))) .ret))))))
theorem tr7 : Try.f7.body.bind (trCode Try.prog) = some (strip ac7) := by kernel_rfl
theorem spec7 (p q : Flt) (e : Ev) : Spec Try.prog 7 [.fz (.agg (encFl p)), .fz (.agg (encFl q)), .fz (.agg (encEv e))] (.fz (.bool true)) := by
  refine spec_at (n := 53) (ars := [(.t 6)]) (ac := ac7) Try.func7 (by kernel_rfl) (by kernel_rfl) tr7 (by kernel_rfl) ?_
  unfold ac7
  by_cases hl : shortB p = true
  case neg =>
    iterate 30 (all_goals (try (first
      | ((with_reducible refine of_kSpec ?_); refine call_fz (spec9 p) rfl ?_)
      | ((with_reducible refine of_kSpec ?_); refine call_fz (spec9 q) rfl ?_)
      | ((with_reducible refine of_kSpec ?_); refine call_fz (spec10) rfl ?_)
      | ((with_reducible refine of_kSpec ?_); refine call_fz (spec13 [e]) rfl ?_)
      | (with_reducible refine ite_in (fun _ => ?_) (fun _ => ?_))
      | (with_reducible refine ⟨fun _ => ?_, fun _ => ?_⟩)
      | (with_reducible refine And.intro ?_ ?_)
      | (with_reducible intro _)
      | (with_reducible exact is_in _)
      | (simp -implicitDefEqProofs only [SD, SF, SL, e_nf, reduceCtorEq, implies_true, ↓reduceIte, Nat.reduceEqDiff, Nat.reduceAdd, Nat.reduceMul, Nat.reduceSub, Nat.reduceLeDiff, Nat.reduceLT, Int.reduceLT, Int.reduceLE, Int.reduceEq, Int.reduceToNat, Int.reduceAdd, Int.reduceSub, Int.reduceNeg, Int.reduceBEq, Int.reduceBNe, Nat.reduceBEq, Int.cast_ofNat_Int, decide_true, decide_false, ne_eq, eq_self_iff_true, beq_eq_false_iff_ne, bne_iff_ne, List.replicate, encFl, encEv, *]))))
    all_goals (first | (simp_all; done) | (simp_all; omega) | trace_state)
  case pos =>
    by_cases hm : shortB q = true
    case neg =>
      iterate 30 (all_goals (try (first
        | ((with_reducible refine of_kSpec ?_); refine call_fz (spec9 p) rfl ?_)
        | ((with_reducible refine of_kSpec ?_); refine call_fz (spec9 q) rfl ?_)
        | ((with_reducible refine of_kSpec ?_); refine call_fz (spec10) rfl ?_)
        | ((with_reducible refine of_kSpec ?_); refine call_fz (spec13 [e]) rfl ?_)
        | (with_reducible refine ite_in (fun _ => ?_) (fun _ => ?_))
        | (with_reducible refine ⟨fun _ => ?_, fun _ => ?_⟩)
        | (with_reducible refine And.intro ?_ ?_)
        | (with_reducible intro _)
        | (with_reducible exact is_in _)
        | (simp -implicitDefEqProofs only [SD, SF, SL, e_nf, reduceCtorEq, implies_true, ↓reduceIte, Nat.reduceEqDiff, Nat.reduceAdd, Nat.reduceMul, Nat.reduceSub, Nat.reduceLeDiff, Nat.reduceLT, Int.reduceLT, Int.reduceLE, Int.reduceEq, Int.reduceToNat, Int.reduceAdd, Int.reduceSub, Int.reduceNeg, Int.reduceBEq, Int.reduceBNe, Nat.reduceBEq, Int.cast_ofNat_Int, decide_true, decide_false, ne_eq, eq_self_iff_true, beq_eq_false_iff_ne, bne_iff_ne, List.replicate, encFl, encEv, *]))))
      all_goals (first | (simp_all; done) | (simp_all; omega) | trace_state)
    case pos =>
      obtain ⟨h1, h2, h3⟩ := short_le hl
      obtain ⟨g1, g2, g3⟩ := short_le hm
      have hw := wants_and p q e
      iterate 60 (all_goals (try (first
        | ((with_reducible refine of_kSpec ?_); refine call_fz (spec9 p) rfl ?_)
        | ((with_reducible refine of_kSpec ?_); refine call_fz (spec9 q) rfl ?_)
        | ((with_reducible refine of_kSpec ?_); refine call_fz (spec10) rfl ?_)
        | ((with_reducible refine of_kSpec ?_); refine call_fz (spec13 [e]) rfl ?_)
        | ((with_reducible refine of_kSpec ?_); refine call_fz (spec21 p q (by omega) (by omega) (by omega) (by omega) (by omega) (by omega)) rfl ?_)
        | ((with_reducible refine of_kSpec ?_); refine call_fz (spec23 p q (by omega) (by omega) (by omega) (by omega) (by omega) (by omega)) rfl ?_)
        | ((with_reducible refine of_kSpec ?_); refine call_fz (spec22 (andL p q) (andL p q)) rfl ?_)
        | ((with_reducible refine of_kSpec ?_); refine call_fz (spec14 (andL p q) e) rfl ?_)
        | ((with_reducible refine of_kSpec ?_); refine call_fz (spec14 p e) rfl ?_)
        | ((with_reducible refine of_kSpec ?_); refine call_fz (spec14 q e) rfl ?_)
        | (with_reducible refine ite_in (fun _ => ?_) (fun _ => ?_))
        | (with_reducible refine ⟨fun _ => ?_, fun _ => ?_⟩)
        | (with_reducible refine And.intro ?_ ?_)
        | (with_reducible intro _)
        | (with_reducible exact is_in _)
        | (simp -implicitDefEqProofs only [SD, SF, SL, e_nf, reduceCtorEq, implies_true, ↓reduceIte, Nat.reduceEqDiff, Nat.reduceAdd, Nat.reduceMul, Nat.reduceSub, Nat.reduceLeDiff, Nat.reduceLT, Int.reduceLT, Int.reduceLE, Int.reduceEq, Int.reduceToNat, Int.reduceAdd, Int.reduceSub, Int.reduceNeg, Int.reduceBEq, Int.reduceBNe, Nat.reduceBEq, Int.cast_ofNat_Int, decide_true, decide_false, ne_eq, eq_self_iff_true, beq_eq_false_iff_ne, bne_iff_ne, List.replicate, encFl, encEv, hl, hm, *]))))
      all_goals (first | (simp_all; done) | (simp_all; omega) | trace_state)


end Go.Proofs.Ytamcbdflmephdaa.E
