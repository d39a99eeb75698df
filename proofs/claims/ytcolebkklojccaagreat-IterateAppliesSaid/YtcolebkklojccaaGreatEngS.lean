/-
  The engine, part S: operations that leave the world alone yield the same value in later worlds.
-/
import Derived.Test.YtcolebkklojccaaGreatEngQ
set_option linter.unusedVariables false
set_option linter.unusedSimpArgs false
set_option linter.unusedSimpArgs false
set_option linter.unusedVariables false
namespace Go.Proofs.YtcolebkklojccaaGreat.E
open Go

/-- how a world may have turned since: what is frozen is as it was; unless 'st', so is every old block -/
def Stb (st : Bool) (F : Frz) (w w' : World) : Prop := (∀ b o, F b o → w'.cell? ⟨b, o, none⟩ = w.cell? ⟨b, o, none⟩) ∧ (st = false → Ext w w')
def Yd (P : Program) (st : Bool) (O : Nat → Prop) (F0 : Frz) (w0 : World) (F : Frz) (o : Oper) (a : Act) (w : World) (K : DS → Prop) : Prop :=
  ∃ v, (∀ w', Stb st F w w' → (execOp a.eval o).run P w' = .ok (.value v) w') ∧ ∃ s M, Inv O F0 w0 M F s.env s.mem (a.put o.dst v) w ∧ K s

section
variable {P : Program} {st : Bool} {O : Nat → Prop} {F0 : Frz} {w0 : World} {M : Hnd} {F : Frz} {a : Act} {w w' : World} {s : DS} {K : DS → Prop} {o : Oper}

theorem yd_put {d : DV} {v : Value} (hrun : ∀ w', Stb st F w w' → (execOp a.eval o).run P w' = .ok (.value v) w') (hi : Inv O F0 w0 M F s.env s.mem a w) (hR : RV M F w d v) (hK : kPut o.dst s K d) : Yd P st O F0 w0 F o a w K := by
  refine ⟨v, hrun, ?_⟩
  cases hd : o.dst with
  | none => rw [hd] at hK; exact ⟨s, M, hi, hK⟩
  | some k => rw [hd] at hK; exact ⟨⟨stp s.env k d, s.mem⟩, M, hi.put k hR, hK⟩

theorem binI_all {op : BinOp} {k : IntKind} {x y : Int} {K : DV → Prop} (t : TypeId) (h : binI op k x y K) : ∃ d v, (∀ w', (binOp op t (.int k x) (.int k y)).run P w' = .ok v w') ∧ (∀ (M : Hnd) (F : Frz) (w : World), RV M F w d v) ∧ K d := by
  cases op <;> simp only [binI] at h
  case add => exact ⟨_, _, fun _ => by rw [binOp_add]; rfl, fun _ _ _ => mk_int _ _, h⟩
  case sub => exact ⟨_, _, fun _ => by rw [binOp_sub]; rfl, fun _ _ _ => mk_int _ _, h⟩
  case mul => exact ⟨_, _, fun _ => by rw [binOp_mul]; rfl, fun _ _ _ => mk_int _ _, h⟩
  case quo => exact ⟨_, _, fun _ => by rw [binOp_quo]; unfold Op.intDiv; rw [if_neg h.1]; rfl, fun _ _ _ => mk_int _ _, h.2⟩
  case rem => exact ⟨_, _, fun _ => by rw [binOp_rem]; unfold Op.intDiv; rw [if_neg h.1]; rfl, fun _ _ _ => mk_int _ _, h.2⟩
  case and => exact ⟨_, _, fun _ => by rw [binOp_and]; rfl, fun _ _ _ => mk_int _ _, h⟩
  case or => exact ⟨_, _, fun _ => by rw [binOp_or]; rfl, fun _ _ _ => mk_int _ _, h⟩
  case xor => exact ⟨_, _, fun _ => by rw [binOp_xor]; rfl, fun _ _ _ => mk_int _ _, h⟩
  case eql => exact ⟨_, _, fun _ => by rw [binOp_eql]; rfl, fun _ _ _ => mk_bool _, h⟩
  case neq => exact ⟨_, _, fun _ => by rw [binOp_neq]; rfl, fun _ _ _ => mk_bool _, h⟩
  case lss => exact ⟨_, _, fun _ => by rw [binOp_lss]; rfl, fun _ _ _ => mk_bool _, h⟩
  case leq => exact ⟨_, _, fun _ => by rw [binOp_leq]; rfl, fun _ _ _ => mk_bool _, h⟩
  case gtr => exact ⟨_, _, fun _ => by rw [binOp_gtr]; rfl, fun _ _ _ => mk_bool _, h⟩
  case geq => exact ⟨_, _, fun _ => by rw [binOp_geq]; rfl, fun _ _ _ => mk_bool _, h⟩
theorem binS_all {op : BinOp} {x y : List UInt8} {K : DV → Prop} (t : TypeId) (h : binS op x y K) : ∃ d v, (∀ w', (binOp op t (.string ⟨x.toArray⟩) (.string ⟨y.toArray⟩)).run P w' = .ok v w') ∧ (∀ (M : Hnd) (F : Frz) (w : World), RV M F w d v) ∧ K d := by
  cases op <;> simp only [binS] at h
  case add =>
    refine ⟨_, _, fun _ => ?_, fun _ _ _ => mk_str _ (by simpa using h.1), h.2⟩
    have : ¬ (((ByteArray.mk x.toArray).size + (ByteArray.mk y.toArray).size : Nat) : Int) > IntKind.i64.max := by
      have := h.1
      rw [ofList_size, ofList_size, IntKind.max_i64]
      simp only [maxLen] at this
      omega
    simp only [binOp, Op.stringOp, if_neg this, append_mk]
    rfl
  case eql => exact ⟨_, _, fun _ => by simp only [binOp, Op.stringOp, ByteArray.toList_mk]; rfl, fun _ _ _ => mk_bool _, h⟩
  case neq => exact ⟨_, _, fun _ => by simp only [binOp, Op.stringOp, ByteArray.toList_mk]; rfl, fun _ _ _ => mk_bool _, h⟩
  case lss => exact ⟨_, _, fun _ => by simp only [binOp, Op.stringOp, ByteArray.toList_mk]; rfl, fun _ _ _ => mk_bool _, h⟩
  case leq => exact ⟨_, _, fun _ => by simp only [binOp, Op.stringOp, ByteArray.toList_mk]; rfl, fun _ _ _ => mk_bool _, h⟩
  case gtr => exact ⟨_, _, fun _ => by simp only [binOp, Op.stringOp, ByteArray.toList_mk]; rfl, fun _ _ _ => mk_bool _, h⟩
  case geq => exact ⟨_, _, fun _ => by simp only [binOp, Op.stringOp, ByteArray.toList_mk]; rfl, fun _ _ _ => mk_bool _, h⟩
theorem yd_mv (hi : Inv O F0 w0 M F s.env s.mem a w) {x : Operand} {ax : AX} (ho : o.op = .move x ∨ o.op = .assign x) (hx : trX x = some ax) (hK : kMv (ev s.env ax) (kPut o.dst s K)) : Yd P st O F0 w0 F o a w K := by
  refine yd_put (v := a.eval x) ?_ hi (trX_ok hx hi) hK
  intro w' _
  unfold execOp
  rcases ho with ho | ho <;> rw [ho] <;> rfl
theorem yd_pick (hi : Inv O F0 w0 M F s.env s.mem a w) {c x y : Operand} {ac ax ay : AX} (ho : o.op = .pick c x y) (hc : trX c = some ac) (hx : trX x = some ax) (hy : trX y = some ay)
    (hK : kPick (ev s.env ac) (ev s.env ax) (ev s.env ay) (kPut o.dst s K)) : Yd P st O F0 w0 F o a w K := by
  have h1 := trX_ok hc hi
  cases hd : ev s.env ac <;> rw [hd] at hK h1 <;> first | exact hK.elim | skip
  rename_i b
  have e := RV_bool h1
  cases b with
  | true =>
    refine yd_put (v := a.eval x) ?_ hi (trX_ok hx hi) (hK.1 rfl)
    intro w' _
    unfold execOp
    rw [ho]
    simp [e, asBool]
  | false =>
    refine yd_put (v := a.eval y) ?_ hi (trX_ok hy hi) (hK.2 rfl)
    intro w' _
    unfold execOp
    rw [ho]
    simp [e, asBool]
theorem yd_nt (hi : Inv O F0 w0 M F s.env s.mem a w) {t : TypeId} {x : Operand} {ax : AX} (ho : o.op = .unOp .not t x) (hx : trX x = some ax) (hK : kNt (ev s.env ax) (kPut o.dst s K)) : Yd P st O F0 w0 F o a w K := by
  have h1 := trX_ok hx hi
  cases hd : ev s.env ax <;> rw [hd] at hK h1 <;> first | exact hK.elim | skip
  rename_i b
  refine yd_put (v := .bool (!b)) ?_ hi (mk_bool _) hK
  intro w' _
  unfold execOp
  rw [ho]
  exact run_v (by rw [RV_bool h1]; rfl)
theorem yd_bin (hi : Inv O F0 w0 M F s.env s.mem a w) {op : BinOp} {t t' : TypeId} {x y : Operand} {ax ay : AX} (ho : o.op = .binOp op t x y t')
    (hx : trX x = some ax) (hy : trX y = some ay) (hK : kBin op (ev s.env ax) (ev s.env ay) (kPut o.dst s K)) : Yd P st O F0 w0 F o a w K := by
  have h1 := trX_ok hx hi
  have h2 := trX_ok hy hi
  cases hd1 : ev s.env ax <;> rw [hd1] at hK h1 <;> first | exact hK.elim | skip
  · rename_i k n
    cases hd2 : ev s.env ay <;> rw [hd2] at hK h2 <;> first | exact hK.elim | skip
    rename_i k' m
    have e1 := RV_int h1
    have e2 := RV_int h2
    have hg : eqGuard op t x y (a.eval x) (a.eval y) = pure () := eqGuard_ok _ _ _ _ _ _ (by rw [e1])
    rcases hK with ⟨rfl, g1, g2, g3⟩ | ⟨rfl, _, _, g3⟩
    · refine yd_put (fun w' _ => run_bin (w := w') ho hg ?_) hi (mk_int _ _) g3
      rw [e1, e2, binOp_shl, shift_shl _ _ _ _ g1 g2]
      rfl
    · obtain ⟨d, v, r1, r2, r3⟩ := binI_all (P := P) t g3
      refine yd_put (fun w' _ => run_bin (w := w') ho hg ?_) hi (r2 _ _ _) r3
      rw [e1, e2, r1]
  · rename_i l
    cases hd2 : ev s.env ay <;> rw [hd2] at hK h2 <;> first | exact hK.elim | skip
    rename_i l'
    have e1 := (RV_str h1).1
    have e2 := (RV_str h2).1
    have hg : eqGuard op t x y (a.eval x) (a.eval y) = pure () := eqGuard_ok _ _ _ _ _ _ (by rw [e1])
    obtain ⟨d, v, r1, r2, r3⟩ := binS_all (P := P) t hK
    refine yd_put (fun w' _ => run_bin (w := w') ho hg ?_) hi (r2 _ _ _) r3
    rw [e1, e2, r1]
theorem yd_beq (hi : Inv O F0 w0 M F s.env s.mem a w) {ne : Bool} {t t' : TypeId} {x y : Operand} {ax ay : AX} (ho : o.op = .binOp (if ne then .neq else .eql) t x y t') (ht : P.underlying t = some .bool)
    (hx : trX x = some ax) (hy : trX y = some ay) (hK : kBeq ne (ev s.env ax) (ev s.env ay) (kPut o.dst s K)) : Yd P st O F0 w0 F o a w K := by
  have h1 := trX_ok hx hi
  have h2 := trX_ok hy hi
  cases hd1 : ev s.env ax <;> rw [hd1] at hK h1 <;> first | exact hK.elim | skip
  rename_i b
  cases hd2 : ev s.env ay <;> rw [hd2] at hK h2 <;> first | exact hK.elim | skip
  rename_i c
  have e1 := RV_bool h1
  have e2 := RV_bool h2
  cases ne with
  | false =>
    refine yd_put (fun w' _ => run_bin (w := w') ho (eqGuard_ok _ _ _ _ _ _ (by rw [e1])) ?_) hi (mk_bool _) hK
    rw [e1, e2]; exact (binB_ok ht).1
  | true =>
    refine yd_put (fun w' _ => run_bin (w := w') ho (eqGuard_ok _ _ _ _ _ _ (by rw [e1])) ?_) hi (mk_bool _) hK
    rw [e1, e2]; exact (binB_ok ht).2

theorem yd_fld (hi : Inv O F0 w0 M F s.env s.mem a w) {t : TypeId} {p : Operand} {f : Nat} {ap : AX} {fs : Array Field} {fd : Field} {n : Nat} (ho : o.op = .fieldAddr t p f) (ht : P.underlying t = some (.struct fs)) (hf : fs[f]? = some fd)
    (hn : szT P fd.type = some n) (hn0 : n ≠ 0) (hp : trX p = some ap) (hK : kFld fd.offset (ev s.env ap) (kPut o.dst s K)) : Yd P st O F0 w0 F o a w K := by
  have h1 := trX_ok hp hi
  have run : ∀ b off, a.eval p = .pointer (some ⟨b, off, none⟩) → ∀ w', Stb st F w w' → (execOp a.eval o).run P w' = .ok (.value (.pointer (some ⟨b, off + fd.offset, none⟩))) w' := by
    intro b off e w' _
    unfold execOp
    rw [ho]
    refine run_v ?_
    simp only [Instr.fieldAt, Sem.run_bind, run_underlying ht, Result.andThen_ok, hf, e, Instr.sureAddr, Sem.run_pure, fieldPlace, run_sizeOf hn, if_neg hn0, Addr.add_lit]
  cases hd : ev s.env ap <;> rw [hd] at hK h1 <;> first | exact hK.elim | skip
  · rename_i cs
    have h1 : RF F w (.pf cs) _ := h1
    rw [RF] at h1
    obtain ⟨b, off, e, hc⟩ := h1
    refine yd_put (run b off e) hi ?_ hK
    show RF F w _ _
    rw [RF]
    exact ⟨b, off + fd.offset, rfl, hc.drop _⟩
  · rename_i k off
    obtain ⟨b, e1, e2⟩ := (show RVc M F w (.ml k off) _ from h1)
    exact yd_put (run b off e2) hi (mk_ml e1) hK
  · rename_i k sz i off
    obtain ⟨b, n', c, e1, e2⟩ := (show RVc M F w (.ve k sz i off) _ from h1)
    exact yd_put (run b _ e2) hi (mk_ve e1 (by omega)) hK

theorem part_all {t : TypeId} {d : TypeDesc} {n : Nat} (hd : P.underlying t = some d) (hn : szT P t = some n) {cs : List DV} {arr : Array Value} (h1 : ∀ u ∈ arr.toList, u.oneCell' = true) (h2 : All2 (RVc M F w) cs arr.toList) (off : Nat)
    {KK : DV → Prop} (hK : takeK (isAggD d) n (cs.drop off) KK) : ∃ x v, (∀ w', (part t arr off).run P w' = .ok v w') ∧ RV M F w x v ∧ KK x := by
  cases hag : isAggD d with
  | true =>
    rw [hag] at hK
    obtain ⟨_, h4⟩ := hK
    refine ⟨_, .agg (arr.extract off (off + n)), ?_, mkAgg_RV ?_ ?_, h4⟩
    · intro w'
      unfold part
      simp only [Sem.run_bind, run_isAgg hd, Result.andThen_ok, hag]
      simp [run_sizeOf hn]
    · intro u hu
      have : (arr.extract off (off + n)).toList = (arr.toList.drop off).take n := by simp
      rw [this] at hu
      exact h1 u (List.mem_of_mem_drop (List.mem_of_mem_take hu))
    · have : (arr.extract off (off + n)).toList = (arr.toList.drop off).take n := by simp
      rw [this]
      exact (h2.drop off).take n
  | false =>
    rw [hag] at hK
    cases hcs : cs.drop off with
    | nil => rw [hcs] at hK; exact hK.elim
    | cons c r =>
      rw [hcs] at hK
      have hc : cs[off]? = some c := by
        have : (cs.drop off)[0]? = some c := by rw [hcs]; rfl
        simpa using this
      obtain ⟨u, e1, e2⟩ := h2.get off c hc
      refine ⟨c, u, fun w' => ?_, RV_RVc e2, hK⟩
      have e1' : arr[off]? = some u := by simpa using e1
      unfold part
      simp only [Sem.run_bind, run_isAgg hd, Result.andThen_ok, hag, Bool.false_eq_true, if_false, e1', Sem.run_pure]

theorem yd_fldv (hi : Inv O F0 w0 M F s.env s.mem a w) {t : TypeId} {x : Operand} {f : Nat} {ax : AX} {fs : Array Field} {fd : Field} {n : Nat} {d : TypeDesc} (ho : o.op = .field t x f) (ht : P.underlying t = some (.struct fs)) (hf : fs[f]? = some fd)
    (hn : szT P fd.type = some n) (hd : P.underlying fd.type = some d) (hx : trX x = some ax) (hK : kFldv (isAggD d) fd.offset n (ev s.env ax) (kPut o.dst s K)) : Yd P st O F0 w0 F o a w K := by
  have h1 := trX_ok hx hi
  have fin : ∀ {cs : List DV} {arr : Array Value}, a.eval x = .agg arr → (∀ u ∈ arr.toList, u.oneCell' = true) → All2 (RVc M F w) cs arr.toList → takeK (isAggD d) n (cs.drop fd.offset) (kPut o.dst s K) → Yd P st O F0 w0 F o a w K := by
    intro cs arr e g1 g2 g3
    obtain ⟨y, v, r1, r2, r3⟩ := part_all (P := P) hd hn g1 g2 fd.offset g3
    refine yd_put (fun w' _ => ?_) hi r2 r3
    unfold execOp
    rw [ho]
    exact run_v (by simp only [Instr.field, Sem.run_bind, run_underlying ht, Result.andThen_ok, hf, e, asAgg, Sem.run_pure, r1])
  cases hd1 : ev s.env ax <;> rw [hd1] at hK h1 <;> first | exact hK.elim | skip
  · rename_i cs
    obtain ⟨arr, e, g1, g2⟩ := RV_agg h1
    refine fin e g1 (g2.mono fun _ _ => RVc_of_RF) ?_
    cases hag : isAggD d with
    | true =>
      rw [hag] at hK
      refine ⟨by have := hK.1; simp; omega, ?_⟩
      rw [mkAgg_of_fz fun d hd => All2_isFz g2 d (List.mem_of_mem_drop (List.mem_of_mem_take hd))]
      exact hK.2
    | false => rw [hag] at hK; exact hK
  · rename_i cs
    obtain ⟨arr, e, g1, g2⟩ := h1
    refine fin e g1 g2 ?_
    cases hag : isAggD d with
    | true => rw [hag] at hK; exact ⟨by have := hK.1; simp; omega, hK.2⟩
    | false => rw [hag] at hK; exact hK
theorem yd_ix (hi : Inv O F0 w0 M F s.env s.mem a w) {t : TypeId} {x i : Operand} {ax ai : AX} {e : TypeId} {sz : Nat} (ho : o.op = .indexAddr t x i) (ht : P.underlying t = some (.slice e)) (hs : szT P e = some sz)
    (hx : trX x = some ax) (hix : trX i = some ai) (hK : kIx sz (ev s.env ax) (ev s.env ai) s.mem (kPut o.dst s K)) : Yd P st O F0 w0 F o a w K := by
  have h1 := trX_ok hx hi
  have h2 := trX_ok hix hi
  cases hd1 : ev s.env ax <;> rw [hd1] at hK h1 <;> first | exact hK.elim | skip
  · rename_i z xs
    cases hd2 : ev s.env ai <;> rw [hd2] at hK h2 <;> first | exact hK.elim | skip
    rename_i k n
    obtain ⟨rfl, g1, g2, g3⟩ := hK
    obtain ⟨A, cap, e1, c1, c2, c3, c4⟩ := RV_sl h1
    have hlt : n.toNat < xs.length := by omega
    rcases c4 with c4 | ⟨b, off, rfl, c5⟩
    · subst c4; simp at hlt
    · refine yd_put (fun w' _ => run_ix (w := w') ho ht hs e1 (RV_int h2) g1 g2) hi ?_ g3
      show RF F w _ _
      rw [RF]
      refine ⟨b, _, rfl, ?_⟩
      have hx : xs[n.toNat]? = some xs[n.toNat] := List.getElem?_eq_getElem hlt
      have := (c5.get n.toNat _ hx).2
      simpa [List.getD, hx] using this
  · rename_i k
    cases hd2 : ev s.env ai <;> rw [hd2] at hK h2 <;> first | exact hK.elim | skip
    rename_i k' n
    simp only [kIx] at hK
    cases hm : mget s.mem k with
    | none => rw [hm] at hK; exact hK.elim
    | some blk =>
      rw [hm] at hK
      cases blk with
      | box cs => exact hK.elim
      | mp kk es => exact hK.elim
      | vec e' s' xs =>
        obtain ⟨rfl, g1, g2, g3⟩ := hK
        have hM : M k = some (a.eval x) := (show RVc M F w (.ow k) _ from h1).1
        obtain ⟨b, cap, arr, e1, e2, e3⟩ := hi.vecAt hm hM (i := n.toNat) (by omega)
        refine yd_put (fun w' _ => run_ix (w := w') ho ht hs e1 (RV_int h2) g1 g2) hi (mk_ve (M := M) (by rw [hM, e1]) (by omega)) g3
theorem yd_ixp (hi : Inv O F0 w0 M F s.env s.mem a w) {t : TypeId} {x i : Operand} {ax ai : AX} {e : TypeId} {len sz : Nat} (ho : o.op = .indexAddr t x i) (ht : P.underlying t = some (.array len e)) (hs : szT P e = some sz)
    (hx : trX x = some ax) (hix : trX i = some ai) (hK : kIxp len sz (ev s.env ax) (ev s.env ai) (kPut o.dst s K)) : Yd P st O F0 w0 F o a w K := by
  have h1 := trX_ok hx hi
  have h2 := trX_ok hix hi
  have run : ∀ {b off : Nat} {k : IntKind} {j : Int}, a.eval x = .pointer (some ⟨b, off, none⟩) → a.eval i = .int k j → 0 ≤ j → j < len → ∀ w', Stb st F w w' → (execOp a.eval o).run P w' = .ok (.value (.pointer (some ⟨b, off + j.toNat * sz, none⟩))) w' := by
    intro b off k j hx hi h0 h1 w' _
    unfold execOp
    rw [ho]
    refine run_v ?_
    simp only [Instr.indexAt, hx, hi, asIntOf, Sem.run_bind, Sem.run_pure, Result.andThen_ok, run_underlying ht, Instr.sureAddr]
    rw [if_pos ⟨h0, h1⟩]
    simp only [Sem.run_bind, run_sizeOf hs, Result.andThen_ok, Sem.run_pure, Addr.add_lit]
  cases hd1 : ev s.env ax <;> rw [hd1] at hK h1 <;> first | exact hK.elim | skip
  · rename_i cs
    cases hd2 : ev s.env ai <;> rw [hd2] at hK h2 <;> first | exact hK.elim | skip
    rename_i k n
    obtain ⟨g1, g2, g3⟩ := hK
    obtain ⟨b, off, e1, e2⟩ := RV_pf h1
    refine yd_put (run e1 (RV_int h2) g1 g2) hi ?_ g3
    show RF F w _ _
    rw [RF]
    exact ⟨b, _, rfl, e2.drop _⟩
  · rename_i k off
    cases hd2 : ev s.env ai <;> rw [hd2] at hK h2 <;> first | exact hK.elim | skip
    rename_i k' n
    obtain ⟨g1, g2, g3⟩ := hK
    obtain ⟨b, e1, e2⟩ := (show RVc M F w (.ml k off) _ from h1)
    exact yd_put (run e2 (RV_int h2) g1 g2) hi (mk_ml e1) g3

theorem CellsAt.load_all {cs : List DV} {b off : Nat} (h : CellsAt M F w cs b off) : ∃ arr : Array Value, (∀ w', (∀ i, i < cs.length → w'.cell? ⟨b, off + i, none⟩ = w.cell? ⟨b, off + i, none⟩) → (loadCells ⟨b, off, none⟩ cs.length).run P w' = .ok arr w') ∧
    (∀ u ∈ arr.toList, u.oneCell' = true) ∧ All2 (RVc M F w) cs arr.toList := by
  have hx : ∃ l : List Value, l.length = cs.length ∧ (∀ (i : Nat) v, l[i]? = some v → w.cell? ⟨b, off + i, none⟩ = some v) ∧ (∀ u ∈ l, u.oneCell' = true) ∧ All2 (RVc M F w) cs l := by
    induction cs generalizing off with
    | nil => exact ⟨[], rfl, by simp, by simp, All2.nil⟩
    | cons c cs ih =>
      obtain ⟨u, h1, h2, h3⟩ := h 0 c rfl
      obtain ⟨l, hl, hg, ho, hr⟩ := ih (off := off + 1) fun i d hi => by
        obtain ⟨u', e1, e2, e3⟩ := h (i + 1) d (by simpa using hi)
        exact ⟨u', by rw [← e1]; congr 2; omega, e2, e3⟩
      refine ⟨u :: l, by simp [hl], ?_, by simpa using ⟨h2, ho⟩, All2.cons h3 hr⟩
      intro i v hi
      cases i with
      | zero => simp at hi; subst hi; exact h1
      | succ i =>
        have := hg i v (by simpa using hi)
        have e : off + (i + 1) = off + 1 + i := by omega
        rw [e]; exact this
  obtain ⟨l, hl, hg, ho, hr⟩ := hx
  refine ⟨l.toArray, fun w' hs => ?_, by simpa using ho, by simpa using hr⟩
  rw [← hl]
  exact run_loadCells_list w' ⟨b, off, none⟩ l fun j v hj => by
    rw [Addr.add_lit, hs j (by rw [← hl]; exact (List.getElem?_eq_some_iff.1 hj).1)]
    exact hg j v hj
theorem loadVar_all {t : TypeId} {d : TypeDesc} {n : Nat} (hd : P.underlying t = some d) (hn : szT P t = some n) (h1 : (isAggD d || n == 1) = true) {cs : List DV} {b off : Nat} (hc : CellsAt M F w cs b off)
    {KK : DV → Prop} (hK : takeK (isAggD d) n cs KK) : ∃ x v, (∀ w', (∀ i, i < cs.length → w'.cell? ⟨b, off + i, none⟩ = w.cell? ⟨b, off + i, none⟩) → (loadVar t ⟨b, off, none⟩).run P w' = .ok v w') ∧ RV M F w x v ∧ KK x := by
  cases hag : isAggD d with
  | true =>
    rw [hag] at hK
    obtain ⟨h2, h3⟩ := hK
    obtain ⟨arr, e1, e2, e3⟩ := (hc.take n).load_all (P := P)
    have hl : (cs.take n).length = n := by simp; omega
    rw [hl] at e1
    refine ⟨_, .agg arr, fun w' hs => ?_, mkAgg_RV e2 e3, h3⟩
    unfold loadVar
    simp only [Sem.run_bind, run_isAgg hd, Result.andThen_ok, hag]
    simp [run_sizeOf hn, e1 w' fun i hi => hs i (by omega)]
  | false =>
    rw [hag] at hK
    cases cs with
    | nil => exact hK.elim
    | cons c cs =>
      obtain ⟨u, e1, e2, e3⟩ := hc 0 c rfl
      refine ⟨c, u, fun w' hs => ?_, RV_RVc e3, hK⟩
      unfold loadVar
      simp only [Sem.run_bind, run_isAgg hd, Result.andThen_ok, hag]
      simp only [Bool.false_eq_true, if_false, run_load]
      have := hs 0 (by simp)
      rw [Nat.add_zero] at this e1
      rw [this, e1]
theorem cell_lt {b o : Nat} {v : Value} (h : w.cell? ⟨b, o, none⟩ = some v) : b < w.heap.size := by
  simp only [World.cell?] at h
  split at h
  · rename_i h1; exact (Array.getElem?_eq_some_iff.1 h1).1
  · cases h
/-- a load: 'st' asks that nobody will write there any more -/
theorem yd_ld (hi : Inv O F0 w0 M F s.env s.mem a w) {t : TypeId} {p : Operand} {ap : AX} {d : TypeDesc} {n : Nat} (ho : o.op = .load t p) (hd : P.underlying t = some d) (hn : szT P t = some n)
    (h1 : (isAggD d || n == 1) = true) (hp : trX p = some ap) (hst : st = true → ∃ cs, ev s.env ap = .pf cs) (hK : kLd (isAggD d) n (ev s.env ap) s.mem (kPut o.dst s K)) : Yd P st O F0 w0 F o a w K := by
  have hv := trX_ok hp hi
  have fin : ∀ {cs : List DV} {b off : Nat}, a.eval p = .pointer (some ⟨b, off, none⟩) → CellsAt M F w cs b off → (st = true → ∀ i, i < cs.length → F b (off + i)) → takeK (isAggD d) n cs (kPut o.dst s K) → Yd P st O F0 w0 F o a w K := by
    intro cs b off he hc hs hk
    obtain ⟨x, v, hr, hR, hk'⟩ := loadVar_all (P := P) hd hn h1 hc hk
    refine yd_put (fun w' hw' => ?_) hi hR hk'
    have hsame : ∀ i, i < cs.length → w'.cell? ⟨b, off + i, none⟩ = w.cell? ⟨b, off + i, none⟩ := by
      intro i hlt
      cases hst' : st with
      | true => exact hw'.1 _ _ (hs hst' i hlt)
      | false =>
        obtain ⟨u, e1, _⟩ := hc i cs[i] (List.getElem?_eq_getElem hlt)
        exact cell_of_block (hw'.2 hst' b (cell_lt e1)) _
    unfold execOp
    rw [ho]
    exact run_v (by simp only [Instr.loadAt, he, Instr.sureAddr, Sem.run_bind, Sem.run_pure, Result.andThen_ok, hr w' hsame])
  cases hx : ev s.env ap with
  | pf cs =>
    rw [hx] at hv hK
    have hv : RF F w (.pf cs) _ := hv
    rw [RF] at hv
    obtain ⟨b, off, e1, e2⟩ := hv
    refine fin e1 (CellsAt.of_RFC e2) (fun _ i hlt => ?_) ?_
    · obtain ⟨u, _, h3, _⟩ := e2.get i cs[i] (List.getElem?_eq_getElem hlt)
      exact h3.1
    cases hag : isAggD d with
    | true =>
      rw [hag] at hK
      refine ⟨hK.1, ?_⟩
      have : mkAgg (cs.take n) = .agg (cs.take n) := mkAgg_of_fz fun d hd => by
        obtain ⟨i, hi⟩ := List.getElem?_of_mem (List.mem_of_mem_take hd)
        obtain ⟨u, _, _, h3⟩ := e2.get i d hi
        exact RF_isFz h3
      rw [this]; exact hK.2
    | false => rw [hag] at hK; exact hK
  | ml k off =>
    have hst' : st = true → False := fun h => by obtain ⟨cs, e⟩ := hst h; rw [hx] at e; cases e
    rw [hx] at hv hK
    simp only [kLd] at hK
    cases hm : mget s.mem k with
    | none => rw [hm] at hK; exact hK.elim
    | some blk =>
      rw [hm] at hK
      cases blk with
      | vec e sz xs => exact hK.elim
      | mp kk es => exact hK.elim
      | box cs =>
        obtain ⟨b, arr, t', g1, g2, g3, g4, g5⟩ := hi.box hm hv
        refine fin g2 ?_ (fun h => (hst' h).elim) hK
        have := (CellsAt.of_block g3 g4 g5).drop off
        rwa [Nat.zero_add] at this
  | ve k sz i off =>
    have hst' : st = true → False := fun h => by obtain ⟨cs, e⟩ := hst h; rw [hx] at e; cases e
    rw [hx] at hv hK
    simp only [kLd] at hK
    cases hm : mget s.mem k with
    | none => rw [hm] at hK; exact hK.elim
    | some blk =>
      rw [hm] at hK
      cases blk with
      | box cs => exact hK.elim
      | mp kk es => exact hK.elim
      | vec e s' xs =>
        obtain ⟨q1, q2, q3⟩ := hK
        subst q1
        obtain ⟨b, n', c, g1, g2⟩ := (show RVc M F w (.ve k s' i off) _ from hv)
        obtain ⟨b', cap, arr, g3, g4, g5⟩ := hi.vecAt hm g1 q2
        cases g3
        exact fin g2 (g5.drop off) (fun h => (hst' h).elim) q3
  | _ => rw [hx] at hK; exact hK.elim

/-- the kinds that are looked at here -/
def quietA : AOp → Bool
  | .mv _ | .pick _ _ _ | .nt _ | .bin _ _ _ | .beq _ _ _ | .fld _ _ | .fldv _ _ _ _ | .ix _ _ _ | .ixp _ _ _ _ | .ld _ _ _ => true
  | _ => false
def dRunT (P : Program) (st : Bool) (op : AOp) (s : DS) (dst : Option Nat) (K : DS → Prop) : Prop :=
  match st with
  | true => dRunS P op s dst K
  | false => dRun P op s dst K
theorem dRunS_dRun {ao : AOp} {dst : Option Nat} (h : dRunS P ao s dst K) : dRun P ao s dst K := by
  cases ao <;> try exact h
  rename_i ag n p
  have h : kLdF ag n (ev s.env p) (kPut dst s K) := h
  show kLd ag n (ev s.env p) s.mem (kPut dst s K)
  cases hx : ev s.env p <;> rw [hx] at h <;> first | exact h.elim | exact h
theorem trMkfn_quiet {fn : Fn} {x y : Array Operand} {ao : AOp} (h : trMkfn fn x y = some ao) : quietA ao = false := by
  unfold trMkfn at h
  split at h <;> try (cases h; done)
  split at h <;> try (cases h; done)
  simp only [Option.map_eq_some_iff] at h
  obtain ⟨_, _, rfl⟩ := h
  rfl
theorem trLen_quiet {ts : List TypeId} {args : List Operand} {ao : AOp} (h : trLen P ts args = some ao) : quietA ao = false := by
  unfold trLen at h
  repeat' (split at h)
  all_goals first | (cases h; done) | (cases h; rfl)
theorem trApp_quiet {ts : List TypeId} {args : List Operand} {ao : AOp} (h : trApp P ts args = some ao) : quietA ao = false := by
  unfold trApp at h
  repeat' (split at h)
  all_goals first | (cases h; done) | (cases h; rfl)
theorem trMm_quiet {b : Bool} {args : List Operand} {ao : AOp} (h : trMm b args = some ao) : quietA ao = false := by
  unfold trMm at h
  repeat' (split at h)
  all_goals first | (cases h; done) | (cases h; rfl)
theorem trRm_quiet {ts : List TypeId} {args : List Operand} {ao : AOp} (h : trRm P ts args = some ao) : quietA ao = false := by
  unfold trRm at h
  repeat' (split at h)
  all_goals first | (cases h; done) | (cases h; rfl)
theorem trCall_quiet {c : Call} {ao : AOp} (h : trCall P c = some ao) : quietA ao = false := by
  obtain ⟨callee, args, argTypes⟩ := c
  cases callee with
  | builtin b =>
    cases b <;> simp only [trCall, trBuiltin] at h <;> first | (cases h; done) | exact trLen_quiet h | exact trApp_quiet h | exact trMm_quiet h | exact trRm_quiet h
  | value x =>
    simp only [trCall] at h
    unfold trFun at h
    split at h
    · simp only [Option.map_eq_some_iff] at h
      obtain ⟨_, _, rfl⟩ := h
      rfl
    · split at h <;> first | (cases h; done) | (cases h; rfl)
  | invoke x n => cases h
theorem dRun_yd (hi : Inv O F0 w0 M F s.env s.mem a w) {ao : AOp} (hq : quietA ao = true) (h : trOp P o.op = some (stripOp ao)) (hK : dRunT P st ao s o.dst K) : Yd P st O F0 w0 F o a w K := by
  have hK' : dRun P ao s o.dst K := by
    cases st with
    | true => exact dRunS_dRun hK
    | false => exact hK
  have hs : stripOp ao = ao := by cases ao <;> first | rfl | (simp [quietA] at hq)
  rw [hs] at h
  cases hop : o.op <;> rw [hop] at h <;> simp only [trOp] at h <;> try (cases h; done)
  case move x =>
    simp only [Option.map_eq_some_iff] at h
    obtain ⟨ax, h1, rfl⟩ := h
    exact yd_mv hi (.inl hop) h1 hK'
  case assign x =>
    simp only [Option.map_eq_some_iff] at h
    obtain ⟨ax, h1, rfl⟩ := h
    exact yd_mv hi (.inr hop) h1 hK'
  case pick c x y =>
    split at h <;> try (cases h; done)
    rename_i ac ax ay h1 h2 h3
    simp only [Option.some.injEq] at h
    subst h
    exact yd_pick hi hop h1 h2 h3 hK'
  case load t p =>
    split at h <;> try (cases h; done)
    rename_i d n ap h1 h2 h3
    split at h <;> try (cases h; done)
    rename_i h4
    simp only [Option.some.injEq] at h
    subst h
    refine yd_ld hi hop h1 h2 h4 h3 (fun hst => ?_) hK'
    subst hst
    have hK : kLdF (isAggD d) n (ev s.env ap) (kPut o.dst s K) := hK
    cases hx : ev s.env ap <;> rw [hx] at hK <;> first | exact ⟨_, rfl⟩ | exact hK.elim
  case binOp op t x y _ =>
    split at h <;> try (cases h; done)
    rename_i ax ay h1 h2
    split at h
    · rename_i hu
      split at h <;> try (cases h; done)
      · simp only [Option.some.injEq] at h
        subst h
        exact yd_beq (ne := false) hi hop hu h1 h2 hK'
      · simp only [Option.some.injEq] at h
        subst h
        exact yd_beq (ne := true) hi hop hu h1 h2 hK'
    · simp only [Option.some.injEq] at h
      subst h
      exact yd_bin hi hop h1 h2 hK'
    · simp only [Option.some.injEq] at h
      subst h
      exact yd_bin hi hop h1 h2 hK'
    · split at h <;> try (cases h; done)
      all_goals (split at h <;> first | (cases h; done) | (simp only [Option.some.injEq] at h; subst h; simp [quietA] at hq))
    · split at h <;> try (cases h; done)
      split at h <;> first | (cases h; done) | (simp only [Option.some.injEq] at h; subst h; simp [quietA] at hq)
  case unOp op t x =>
    split at h <;> try (cases h; done)
    · simp only [Option.map_eq_some_iff] at h
      obtain ⟨ax, h1, rfl⟩ := h
      exact yd_nt hi hop h1 hK'
    · simp only [Option.map_eq_some_iff] at h
      obtain ⟨ax, h1, rfl⟩ := h
      simp [quietA] at hq
  case fieldAddr t p f =>
    split at h <;> try (cases h; done)
    rename_i fs ap h1 h2
    split at h <;> try (cases h; done)
    rename_i fd h3
    split at h <;> try (cases h; done)
    rename_i n h4
    split at h <;> try (cases h; done)
    rename_i h5
    simp only [Option.some.injEq] at h
    subst h
    exact yd_fld hi hop h1 h3 h4 (by simpa using h5) h2 hK'
  case field t x f =>
    split at h <;> try (cases h; done)
    rename_i fs ax h1 h2
    split at h <;> try (cases h; done)
    rename_i fd h3
    split at h <;> try (cases h; done)
    rename_i n d h4 h5
    simp only [Option.some.injEq] at h
    subst h
    exact yd_fldv hi hop h1 h3 h4 h5 h2 hK'
  case indexAddr t x i =>
    split at h <;> try (cases h; done)
    · rename_i e ax ai h1 h2 h3
      simp only [Option.map_eq_some_iff] at h
      obtain ⟨sz, h4, rfl⟩ := h
      exact yd_ix hi hop h1 h4 h2 h3 hK'
    · rename_i n e ax ai h1 h2 h3
      simp only [Option.map_eq_some_iff] at h
      obtain ⟨sz, h4, rfl⟩ := h
      exact yd_ixp hi hop h1 h4 h2 h3 hK'
  case makeMap t r =>
    split at h <;> try (cases h; done)
    simp only [Option.some.injEq] at h
    subst h
    cases hq
  case mapUpdate t m k v =>
    split at h <;> try (cases h; done)
    simp only [Option.some.injEq] at h
    subst h
    cases hq
  case lookup t x i ok =>
    cases ok <;> simp only at h <;> try (cases h; done)
    split at h <;> try (cases h; done)
    simp only [Option.some.injEq] at h
    subst h
    cases hq
  case makeFunc fn x y => rw [trMkfn_quiet h] at hq; cases hq
  case call c => rw [trCall_quiet h] at hq; cases hq
  all_goals (exfalso; revert h; (repeat' split) <;> intro h <;> first | (cases h; done) | (simp only [Option.some.injEq] at h; subst h; simp [quietA] at hq) | (simp only [Option.map_eq_some_iff] at h; obtain ⟨_, _, rfl⟩ := h; simp [quietA] at hq))
end
end Go.Proofs.YtcolebkklojccaaGreat.E
