/-
  The engine, part H: operations that reckon, one by one.
-/
import Derived.Test.YtcolebkklojccaaGreatEngG
set_option linter.unusedVariables false
set_option linter.unusedSimpArgs false
namespace Go.Proofs.YtcolebkklojccaaGreat.E
open Go

section
variable {P : Program} {O : Nat → Prop} {F0 : Frz} {w0 : World} {M : Hnd} {F : Frz} {a : Act} {w w' : World} {s : DS} {K : DS → Prop} {Q : Exit → Act → World → Prop} {o : Oper}

theorem mk_ml {k off b : Nat} (h : M k = some (.pointer (some ⟨b, 0, none⟩))) : RV M F w (.ml k off) (.pointer (some ⟨b, off, none⟩)) := ⟨b, h, rfl⟩
theorem mk_ve {k sz i off b n c x : Nat} (h : M k = some (.slice (some ⟨b, 0, none⟩) n c)) (hx : x = i * sz + off) : RV M F w (.ve k sz i off) (.pointer (some ⟨b, x, none⟩)) := ⟨b, n, c, h, by rw [hx]⟩
theorem mk_ow {k n c : Nat} {A : Option Addr} (h : M k = some (.slice A n c)) : RV M F w (.ow k) (.slice A n c) := ⟨h, rfl⟩
theorem mk_owm {k : Nat} {r : Option Nat} (h : M k = some (.map r)) : RV M F w (.ow k) (.map r) := ⟨h, rfl⟩
theorem sound_mv (hi : Inv O F0 w0 M F s.env s.mem a w) {x : Operand} {ax : AX} (ho : o.op = .move x ∨ o.op = .assign x) (hx : trX x = some ax) (hK : kMv (ev s.env ax) (kPut o.dst s K)) : o.wp P a w (Gd O F0 w0 K) Q := by
  refine wp_put (v := a.eval x) ?_ hi (trX_ok hx hi) hK
  unfold execOp
  rcases ho with ho | ho <;> rw [ho] <;> rfl
theorem sound_pick (hi : Inv O F0 w0 M F s.env s.mem a w) {c x y : Operand} {ac ax ay : AX} (ho : o.op = .pick c x y) (hc : trX c = some ac) (hx : trX x = some ax) (hy : trX y = some ay)
    (hK : kPick (ev s.env ac) (ev s.env ax) (ev s.env ay) (kPut o.dst s K)) : o.wp P a w (Gd O F0 w0 K) Q := by
  have h1 := trX_ok hc hi
  cases hd : ev s.env ac <;> rw [hd] at hK h1 <;> first | exact hK.elim | skip
  rename_i b
  have e := RV_bool h1
  cases b with
  | true =>
    refine wp_put (v := a.eval x) ?_ hi (trX_ok hx hi) (hK.1 rfl)
    unfold execOp
    rw [ho]
    simp [e, asBool]
  | false =>
    refine wp_put (v := a.eval y) ?_ hi (trX_ok hy hi) (hK.2 rfl)
    unfold execOp
    rw [ho]
    simp [e, asBool]
theorem sound_nt (hi : Inv O F0 w0 M F s.env s.mem a w) {t : TypeId} {x : Operand} {ax : AX} (ho : o.op = .unOp .not t x) (hx : trX x = some ax) (hK : kNt (ev s.env ax) (kPut o.dst s K)) : o.wp P a w (Gd O F0 w0 K) Q := by
  have h1 := trX_ok hx hi
  cases hd : ev s.env ax <;> rw [hd] at hK h1 <;> first | exact hK.elim | skip
  rename_i b
  refine wp_put (v := .bool (!b)) ?_ hi (mk_bool _) hK
  unfold execOp
  rw [ho]
  exact run_v (by rw [RV_bool h1]; rfl)
theorem sound_ng (hi : Inv O F0 w0 M F s.env s.mem a w) {t : TypeId} {x : Operand} {ax : AX} (ho : o.op = .unOp .neg t x) (hx : trX x = some ax) (hK : kNg (ev s.env ax) (kPut o.dst s K)) : o.wp P a w (Gd O F0 w0 K) Q := by
  have h1 := trX_ok hx hi
  cases hd : ev s.env ax <;> rw [hd] at hK h1 <;> first | exact hK.elim | skip
  rename_i k n
  refine wp_put (v := .int k (k.wrap (0 - n))) ?_ hi (mk_int _ _) hK
  unfold execOp
  rw [ho]
  exact run_v (by rw [RV_int h1]; rfl)

theorem run_bin {op : BinOp} {t t' : TypeId} {x y : Operand} {v : Value} (ho : o.op = .binOp op t x y t') (hg : eqGuard op t x y (a.eval x) (a.eval y) = pure ()) (hr : (binOp op t (a.eval x) (a.eval y)).run P w = .ok v w) :
    (execOp a.eval o).run P w = .ok (.value v) w := by
  unfold execOp
  rw [ho]
  exact run_v (by simp only [hg, Sem.run_bind, Sem.run_pure, Result.andThen_ok, hr])
theorem sound_bin (hi : Inv O F0 w0 M F s.env s.mem a w) {op : BinOp} {t t' : TypeId} {x y : Operand} {ax ay : AX} (ho : o.op = .binOp op t x y t')
    (hx : trX x = some ax) (hy : trX y = some ay) (hK : kBin op (ev s.env ax) (ev s.env ay) (kPut o.dst s K)) : o.wp P a w (Gd O F0 w0 K) Q := by
  have h1 := trX_ok hx hi
  have h2 := trX_ok hy hi
  cases hd1 : ev s.env ax <;> rw [hd1] at hK h1 <;> first | exact hK.elim | skip
  · rename_i k n
    cases hd2 : ev s.env ay <;> rw [hd2] at hK h2 <;> first | exact hK.elim | skip
    rename_i k' m
    have e1 := RV_int h1
    have e2 := RV_int h2
    have hg : eqGuard op t x y (a.eval x) (a.eval y) = pure () := eqGuard_ok _ _ _ _ _ _ (by rw [e1])
    rcases hK with ⟨rfl, g1, g2, g3⟩ | ⟨rfl, _, _, g3⟩
    · refine wp_put (run_bin ho hg ?_) hi (mk_int _ _) g3
      rw [e1, e2, binOp_shl, shift_shl _ _ _ _ g1 g2]
      rfl
    · obtain ⟨d, v, r1, r2, r3⟩ := binI_ok (P := P) (w := w) t g3
      refine wp_put (run_bin ho hg ?_) hi (r2 _ _) r3
      rw [e1, e2, r1]
  · rename_i l
    cases hd2 : ev s.env ay <;> rw [hd2] at hK h2 <;> first | exact hK.elim | skip
    rename_i l'
    have e1 := (RV_str h1).1
    have e2 := (RV_str h2).1
    have hg : eqGuard op t x y (a.eval x) (a.eval y) = pure () := eqGuard_ok _ _ _ _ _ _ (by rw [e1])
    obtain ⟨d, v, r1, r2, r3⟩ := binS_ok (P := P) (w := w) t hK
    refine wp_put (run_bin ho hg ?_) hi (r2 _ _) r3
    rw [e1, e2, r1]
theorem sound_beq (hi : Inv O F0 w0 M F s.env s.mem a w) {ne : Bool} {t t' : TypeId} {x y : Operand} {ax ay : AX} (ho : o.op = .binOp (if ne then .neq else .eql) t x y t') (ht : P.underlying t = some .bool)
    (hx : trX x = some ax) (hy : trX y = some ay) (hK : kBeq ne (ev s.env ax) (ev s.env ay) (kPut o.dst s K)) : o.wp P a w (Gd O F0 w0 K) Q := by
  have h1 := trX_ok hx hi
  have h2 := trX_ok hy hi
  cases hd1 : ev s.env ax <;> rw [hd1] at hK h1 <;> first | exact hK.elim | skip
  rename_i b
  cases hd2 : ev s.env ay <;> rw [hd2] at hK h2 <;> first | exact hK.elim | skip
  rename_i c
  have e1 := RV_bool h1
  have e2 := RV_bool h2
  cases ne with
  | false =>
    refine wp_put (run_bin ho (eqGuard_ok _ _ _ _ _ _ (by rw [e1])) ?_) hi (mk_bool _) hK
    rw [e1, e2]; exact (binB_ok ht).1
  | true =>
    refine wp_put (run_bin ho (eqGuard_ok _ _ _ _ _ _ (by rw [e1])) ?_) hi (mk_bool _) hK
    rw [e1, e2]; exact (binB_ok ht).2

theorem sound_fld (hi : Inv O F0 w0 M F s.env s.mem a w) {t : TypeId} {p : Operand} {f : Nat} {ap : AX} {fs : Array Field} {fd : Field} {n : Nat} (ho : o.op = .fieldAddr t p f) (ht : P.underlying t = some (.struct fs)) (hf : fs[f]? = some fd)
    (hn : szT P fd.type = some n) (hn0 : n ≠ 0) (hp : trX p = some ap) (hK : kFld fd.offset (ev s.env ap) (kPut o.dst s K)) : o.wp P a w (Gd O F0 w0 K) Q := by
  have h1 := trX_ok hp hi
  have run : ∀ b off, a.eval p = .pointer (some ⟨b, off, none⟩) → (execOp a.eval o).run P w = .ok (.value (.pointer (some ⟨b, off + fd.offset, none⟩))) w := by
    intro b off e
    unfold execOp
    rw [ho]
    refine run_v ?_
    simp only [Instr.fieldAt, Sem.run_bind, run_underlying ht, Result.andThen_ok, hf, e, Instr.sureAddr, Sem.run_pure, fieldPlace, run_sizeOf hn, if_neg hn0, Addr.add_lit]
  cases hd : ev s.env ap <;> rw [hd] at hK h1 <;> first | exact hK.elim | skip
  · rename_i cs
    have h1 : RF F w (.pf cs) _ := h1
    rw [RF] at h1
    obtain ⟨b, off, e, hc⟩ := h1
    refine wp_put (run b off e) hi ?_ hK
    show RF F w _ _
    rw [RF]
    exact ⟨b, off + fd.offset, rfl, hc.drop _⟩
  · rename_i k off
    obtain ⟨b, e1, e2⟩ := (show RVc M F w (.ml k off) _ from h1)
    exact wp_put (run b off e2) hi (mk_ml e1) hK
  · rename_i k sz i off
    obtain ⟨b, n', c, e1, e2⟩ := (show RVc M F w (.ve k sz i off) _ from h1)
    exact wp_put (run b _ e2) hi (mk_ve e1 (by omega)) hK

theorem part_ok {t : TypeId} {d : TypeDesc} {n : Nat} (hd : P.underlying t = some d) (hn : szT P t = some n) {cs : List DV} {arr : Array Value} (h1 : ∀ u ∈ arr.toList, u.oneCell' = true) (h2 : All2 (RVc M F w) cs arr.toList) (off : Nat)
    {KK : DV → Prop} (hK : takeK (isAggD d) n (cs.drop off) KK) : ∃ x v, (part t arr off).run P w = .ok v w ∧ RV M F w x v ∧ KK x := by
  unfold part
  simp only [Sem.run_bind, run_isAgg hd, Result.andThen_ok]
  cases hag : isAggD d with
  | true =>
    rw [hag] at hK
    obtain ⟨_, h4⟩ := hK
    refine ⟨_, .agg (arr.extract off (off + n)), ?_, mkAgg_RV ?_ ?_, h4⟩
    · simp [run_sizeOf hn]
    · intro u hu
      have : (arr.extract off (off + n)).toList = (arr.toList.drop off).take n := by simp
      rw [this] at hu
      exact h1 u (List.mem_of_mem_drop (List.mem_of_mem_take hu))
    · have : (arr.extract off (off + n)).toList = (arr.toList.drop off).take n := by simp
      rw [this]
      exact (h2.drop off).take n
  | false =>
    rw [hag] at hK
    cases hcs : cs.drop off with
    | nil => rw [hcs] at hK; exact hK.elim
    | cons c r =>
      rw [hcs] at hK
      have hc : cs[off]? = some c := by
        have : (cs.drop off)[0]? = some c := by rw [hcs]; rfl
        simpa using this
      obtain ⟨u, e1, e2⟩ := h2.get off c hc
      refine ⟨c, u, ?_, RV_RVc e2, hK⟩
      have e1' : arr[off]? = some u := by simpa using e1
      simp only [Bool.false_eq_true, if_false, e1', Sem.run_pure]

theorem mkAgg_of_fz {cs : List DV} (h : ∀ d ∈ cs, isFz d = true) : mkAgg cs = .agg cs := by
  unfold mkAgg
  rw [if_pos]
  simpa using h
theorem RF_isFz {d : DV} {v : Value} (h : RF F w d v) : isFz d = true := by
  cases d <;> first | rfl | (simp only [RF] at h)
theorem All2_isFz {cs : List DV} {vs : List Value} (h : All2 (RF F w) cs vs) : ∀ d ∈ cs, isFz d = true := by
  intro d hd
  obtain ⟨i, hi⟩ := List.getElem?_of_mem hd
  obtain ⟨v, _, r⟩ := h.get i d hi
  exact RF_isFz r
theorem sound_fldv (hi : Inv O F0 w0 M F s.env s.mem a w) {t : TypeId} {x : Operand} {f : Nat} {ax : AX} {fs : Array Field} {fd : Field} {n : Nat} {d : TypeDesc} (ho : o.op = .field t x f) (ht : P.underlying t = some (.struct fs)) (hf : fs[f]? = some fd)
    (hn : szT P fd.type = some n) (hd : P.underlying fd.type = some d) (hx : trX x = some ax) (hK : kFldv (isAggD d) fd.offset n (ev s.env ax) (kPut o.dst s K)) : o.wp P a w (Gd O F0 w0 K) Q := by
  have h1 := trX_ok hx hi
  have fin : ∀ {cs : List DV} {arr : Array Value}, a.eval x = .agg arr → (∀ u ∈ arr.toList, u.oneCell' = true) → All2 (RVc M F w) cs arr.toList → takeK (isAggD d) n (cs.drop fd.offset) (kPut o.dst s K) → o.wp P a w (Gd O F0 w0 K) Q := by
    intro cs arr e g1 g2 g3
    obtain ⟨y, v, r1, r2, r3⟩ := part_ok (P := P) hd hn g1 g2 fd.offset g3
    refine wp_put ?_ hi r2 r3
    unfold execOp
    rw [ho]
    exact run_v (by simp only [Instr.field, Sem.run_bind, run_underlying ht, Result.andThen_ok, hf, e, asAgg, Sem.run_pure, r1])
  cases hd1 : ev s.env ax <;> rw [hd1] at hK h1 <;> first | exact hK.elim | skip
  · rename_i cs
    obtain ⟨arr, e, g1, g2⟩ := RV_agg h1
    refine fin e g1 (g2.mono fun _ _ => RVc_of_RF) ?_
    cases hag : isAggD d with
    | true =>
      rw [hag] at hK
      refine ⟨by have := hK.1; simp; omega, ?_⟩
      rw [mkAgg_of_fz fun d hd => All2_isFz g2 d (List.mem_of_mem_drop (List.mem_of_mem_take hd))]
      exact hK.2
    | false => rw [hag] at hK; exact hK
  · rename_i cs
    obtain ⟨arr, e, g1, g2⟩ := h1
    refine fin e g1 g2 ?_
    cases hag : isAggD d with
    | true => rw [hag] at hK; exact ⟨by have := hK.1; simp; omega, hK.2⟩
    | false => rw [hag] at hK; exact hK
end
end Go.Proofs.YtcolebkklojccaaGreat.E
