/-
  ItJ: walks of functions of the program at data level.
-/
import Derived.Test.YtcolebkklojccaaGreatProg
import Derived.Test.YtcolebkklojccaaGreatEngZ
import Derived.Test.YtcolebkklojccaaGreatItI
import Derived.KernelRfl
set_option linter.unusedVariables false
set_option linter.unusedSimpArgs false
namespace Go.Proofs.YtcolebkklojccaaGreat.E
open Go
set_option maxHeartbeats 4000000
set_option maxRecDepth 100000
set_option linter.unusedSimpArgs false
set_option linter.unusedVariables false
attribute [local congr] c_wp c_ops c_op c_opS c_run c_runS c_dt c_seq c_blk c_loop c_S c_put c_bind c_mv c_pick c_nt c_ng c_bin c_binI c_binS c_beq c_B c_eqa c_hd c_cells c_blkK c_box c_vec c_mp c_nck c_mks c_appn c_mkm c_mput c_mlk c_mrm c_take c_ld c_ldF c_cellsK c_st c_fld c_fldv c_ix c_ixp c_ixv c_ixs c_sub c_subs c_len c_lens c_src c_dst c_ow c_app c_ext c_mm c_conv c_str c_isn c_fill c_rows c_boxo c_frz c_frzO c_frzA c_frzV c_spec c_specO c_opsP c_opP c_runP c_specP c_Z c_qretP c_fz c_fn c_gv c_cond c_res1 c_resL c_ret c_qret c_ite c_unr c_nx c_bk c_cut c_is
attribute [local irreducible] dwp

theorem blt_trans : ∀ a b c : List UInt8, Op.bytesLess a b = true → Op.bytesLess b c = true → Op.bytesLess a c = true
  | [], _, [], _, h => by
    rename_i y _
    cases y <;> simp [Op.bytesLess] at h
  | [], _, _ :: _, _, _ => rfl
  | _ :: _, [], _, h, _ => by simp [Op.bytesLess] at h
  | _ :: _, _ :: _, [], _, h => by simp [Op.bytesLess] at h
  | a :: x, b :: y, c :: z, h1, h2 => by
    simp only [Op.bytesLess, Bool.or_eq_true, Bool.and_eq_true, decide_eq_true_eq, beq_iff_eq] at *
    rcases h1 with h1 | ⟨rfl, h1⟩
    · rcases h2 with h2 | ⟨rfl, h2⟩
      · exact .inl (by simp only [UInt8.lt_iff_toNat_lt] at *; omega)
      · exact .inl h1
    · rcases h2 with h2 | ⟨rfl, h2⟩
      · exact .inl h2
      · exact .inr ⟨rfl, blt_trans x y z h1 h2⟩
theorem prec_iff (a b : Ent) : precB a b = true ↔ (a.kind < b.kind ∨ (a.kind = b.kind ∧ Op.bytesLess a.key b.key = true)) := by simp [precB]
theorem isK_iff (q y : Ent) : isK q y = true ↔ (y.kind = q.kind ∧ y.key = q.key) := by simp [isK]
theorem prec_trans {a b c : Ent} (h1 : precB a b = true) (h2 : precB b c = true) : precB a c = true := by
  rw [prec_iff] at *
  rcases h1 with h1 | ⟨h1, h3⟩ <;> rcases h2 with h2 | ⟨h2, h4⟩
  · exact .inl (by omega)
  · exact .inl (by omega)
  · exact .inl (by omega)
  · exact .inr ⟨by omega, blt_trans _ _ _ h3 h4⟩
theorem prec_not {a b : Ent} (h : precB a b = true) : isK a b = false ∧ isK b a = false ∧ precB b a = false := by
  rw [prec_iff] at h
  have h1 : ¬ (a.kind = b.kind ∧ a.key = b.key) := by
    rintro ⟨e1, e2⟩
    rcases h with h | ⟨_, h⟩
    · omega
    · rw [e2, blt_irr] at h
      cases h
  have h2 : ¬ (b.kind < a.kind ∨ (b.kind = a.kind ∧ Op.bytesLess b.key a.key = true)) := by
    rintro (h3 | ⟨h3, h4⟩)
    · rcases h with h | h <;> omega
    · rcases h with h | ⟨_, h⟩
      · omega
      · rw [blt_anti _ _ h] at h4
        cases h4
  refine ⟨?_, ?_, ?_⟩
  · rw [Bool.eq_false_iff, ne_eq, isK_iff]
    exact fun h => h1 ⟨h.1.symm, h.2.symm⟩
  · rw [Bool.eq_false_iff, ne_eq, isK_iff]
    exact h1
  · rw [Bool.eq_false_iff, ne_eq, prec_iff]
    exact h2
theorem prec_tri (a b : Ent) : precB a b = true ∨ isK a b = true ∨ precB b a = true := by
  rw [prec_iff, isK_iff, prec_iff]
  rcases Int.lt_trichotomy a.kind b.kind with h | h | h
  · exact .inl (.inl h)
  · rcases blt_tri a.key b.key with h2 | h2 | h2
    · exact .inl (.inr ⟨h, h2⟩)
    · exact .inr (.inl ⟨h.symm, h2.symm⟩)
    · exact .inr (.inr (.inr ⟨h.symm, h2⟩))
  · exact .inr (.inr (.inl h))
def srt (l : List Ent) : Prop := l.Pairwise fun a b => precB a b = true
theorem srt_chain : ∀ (l : List Ent) (a : Ent), chainB a l = true → srt (a :: l)
  | [], a, _ => List.pairwise_singleton _ _
  | b :: l, a, h => by
    rw [chain_cons, Bool.and_eq_true] at h
    have h2 := srt_chain l b h.2
    refine List.pairwise_cons.2 ⟨fun y hy => ?_, h2⟩
    rcases List.mem_cons.1 hy with rfl | hy
    · exact h.1
    · exact prec_trans h.1 ((List.pairwise_cons.1 h2).1 y hy)
theorem srt_ord {l : List Ent} (h : ordB l = true) : srt l := by
  cases l with
  | nil => exact List.Pairwise.nil
  | cons a l => exact srt_chain l a h
theorem isK_symm {a b : Ent} : isK a b = isK b a := by
  rw [Bool.eq_iff_iff, isK_iff, isK_iff]
  constructor <;> rintro ⟨h1, h2⟩ <;> exact ⟨h1.symm, h2.symm⟩
theorem find_none {l : List Ent} {q : Ent} (h : ∀ y ∈ l, isK q y = false) : getL l q = (0, false) := by
  unfold getL
  rw [List.find?_eq_none.2 (fun y hy => by rw [h y hy]; simp)]
theorem getS_eq : ∀ (l : List Ent) (q : Ent), srt l → getS l q = getL l q
  | [], _, _ => rfl
  | x :: l, q, h => by
    obtain ⟨h1, h2⟩ := List.pairwise_cons.1 h
    rw [getL_cons]
    rcases prec_tri x q with hp | hp | hp
    · obtain ⟨_, hk, _⟩ := prec_not hp
      rw [if_neg (by rw [hk]; simp), ← getS_eq l q h2]
      unfold getS
      rw [List.dropWhile_cons, if_pos (show bq q x = true from hp)]
    · have hk : isK q x = true := isK_symm.trans hp
      rw [isK_iff] at hp
      have hb : bq q x = false := by
        show precB x q = false
        rw [Bool.eq_false_iff, ne_eq, prec_iff]
        rintro (h | ⟨_, h⟩)
        · omega
        · rw [hp.2, blt_irr] at h
          cases h
      have hq : precB q x = false := by
        rw [Bool.eq_false_iff, ne_eq, prec_iff]
        rintro (h | ⟨_, h⟩)
        · omega
        · rw [hp.2, blt_irr] at h
          cases h
      rw [if_pos hk]
      unfold getS
      rw [List.dropWhile_cons, if_neg (by rw [hb]; simp)]
      exact if_pos hq
    · obtain ⟨hk, _, hb⟩ := prec_not hp
      have hl : getL l q = (0, false) := find_none fun y hy => (prec_not (prec_trans hp (h1 y hy))).1
      rw [if_neg (by rw [hk]; simp), hl]
      unfold getS
      rw [List.dropWhile_cons, if_neg (by rw [show bq q x = false from hb]; simp)]
      exact if_neg (by rw [hp]; simp)
theorem pick_eq (es : List Ev) {st : List Ent} (nm : List Ev) (h : srt st) (q : Ent) : pickG getS es st nm q = pickG getL es st nm q := by
  unfold pickG
  rw [getS_eq _ _ h]
theorem base_eq (es : List Ev) {st : List Ent} (e : Ev) (h : srt st) : baseG getS es st e = baseG getL es st e := by
  unfold baseG
  rw [show pickG getS es st (ofL es e.auth) = pickG getL es st (ofL es e.auth) from funext (pick_eq es _ h)]
theorem getL_mem : ∀ {l : List Ent} {x : Ent}, srt l → x ∈ l → getL l ⟨x.kind, x.key, 0⟩ = (x.ident, true)
  | y :: l, x, h, hx => by
    obtain ⟨h1, h2⟩ := List.pairwise_cons.1 h
    rw [getL_cons]
    rcases List.mem_cons.1 hx with rfl | hx
    · rw [if_pos (by rw [isK_iff]; exact ⟨rfl, rfl⟩)]
    · have hk : isK ⟨x.kind, x.key, 0⟩ y = false := (prec_not (h1 x hx)).2.1
      rw [if_neg (by rw [hk]; simp)]
      exact getL_mem h2 hx
theorem getL_has {l : List Ent} {q y : Ent} (hy : y ∈ l) (hk : isK q y = true) : (getL l q).2 = true := by
  unfold getL
  cases hf : l.find? (isK q) with
  | some _ => rfl
  | none =>
    have := List.find?_eq_none.1 hf y hy
    exact absurd hk this
theorem long_bounds {e : Ev} (h : longE e = false) : e.auth.length ≤ 40 ∧ e.allow.length ≤ 40 ∧ e.lv.users.length ≤ 40 ∧ e.lv.kinds.length ≤ 40 ∧ e.sender.length ≤ 2000 ∧ e.room.length ≤ 2000 := by
  unfold longE at h
  rw [Bool.or_eq_false_iff] at h
  have := of_decide_eq_false h.1
  omega
theorem great_ok {es : List Ev} {st : List Ent} {ids : List Int} (h : greatR es st ids = false) : smallE es ∧ es.length ≤ 14 ∧ st.length ≤ 20 ∧ ids.length ≤ 20 ∧ srt st := by
  unfold greatR at h
  simp only [Bool.or_eq_false_iff] at h
  obtain ⟨h1, h2, h3, h4⟩ := h
  unfold greatE at h1
  rw [Bool.or_eq_false_iff] at h1
  have h5 := of_decide_eq_false h1.1
  have h6 := of_decide_eq_false h3
  refine ⟨fun e he => ?_, by omega, greatS_len h2, by omega, ?_⟩
  · have hl : longE e = false := by
      have := List.any_eq_false.1 h1.2 e he
      simpa using this
    obtain ⟨b1, b2, b3, b4, b5, b6⟩ := long_bounds hl
    exact ⟨by omega, by omega, by omega, by omega, by omega, by omega⟩
  · have hc : chkS st = 0 := by simpa using h4
    cases ho : ordB st with
    | true => exact srt_ord ho
    | false =>
      rw [chkS8 ho] at hc
      exact absurd hc (by decide)

end Go.Proofs.YtcolebkklojccaaGreat.E
