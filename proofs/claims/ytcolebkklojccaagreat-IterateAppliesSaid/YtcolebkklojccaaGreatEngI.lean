/-
  The engine, part I: more operations that reckon.
-/
import Derived.Test.YtcolebkklojccaaGreatEngH
set_option linter.unusedVariables false
set_option linter.unusedSimpArgs false
namespace Go.Proofs.YtcolebkklojccaaGreat.E
open Go

section
variable {P : Program} {O : Nat → Prop} {F0 : Frz} {w0 : World} {M : Hnd} {F : Frz} {a : Act} {w w' : World} {s : DS} {K : DS → Prop} {Q : Exit → Act → World → Prop} {o : Oper}

theorem kLen_le {n : Nat} (h : n ≤ maxLen) : n ≤ maxLen := h
theorem RV_sl {sz : Nat} {xs : List (List DV)} {v : Value} (h : RV M F w (.sl sz xs) v) : ∃ A cap, v = .slice A xs.length cap ∧ xs.length ≤ cap ∧ cap ≤ maxLen ∧ (A = none → cap = 0) ∧ (xs = [] ∨ ∃ b off, A = some ⟨b, off, none⟩ ∧ RFE F w xs sz b off) := by
  have h : RF F w (.sl sz xs) v := h
  rw [RF] at h; exact h
theorem RV_e0 {v : Value} (h : RV M F w .e0 v) : ∃ A, v = .slice A 0 0 := by
  have h : RF F w .e0 v := h
  rw [RF] at h; exact h
theorem RV_pf {cs : List DV} {v : Value} (h : RV M F w (.pf cs) v) : ∃ b off, v = .pointer (some ⟨b, off, none⟩) ∧ RFC F w cs b off := by
  have h : RF F w (.pf cs) v := h
  rw [RF] at h; exact h
theorem RV_tup {cs : List DV} {v : Value} (h : RV M F w (.tup cs) v) : ∃ arr : Array Value, v = .tuple arr ∧ All2 (RF F w) cs arr.toList := by
  have h : RF F w (.tup cs) v := h
  rw [RF] at h
  obtain ⟨arr, e, h2⟩ := h
  exact ⟨arr, e, RFs_iff.1 h2⟩
theorem Inv.vec {env : List DV} {mem : Mem} (hi : Inv O F0 w0 M F env mem a w) {k e sz : Nat} {xs : List (List DV)} (hk : mget mem k = some (.vec e sz xs)) {v : Value} (hv : RV M F w (.ow k) v) : VecOK F w (Nw O w0) e sz xs v := by
  obtain ⟨u, h1, h2⟩ := hi.mm k _ hk
  have h3 : M k = some v := (show RVc M F w (.ow k) v from hv).1
  rw [h1] at h3; cases h3; exact h2
theorem VecOK.slice {N : Nat → Prop} {e sz : Nat} {xs : List (List DV)} {v : Value} (h : VecOK F w N e sz xs v) : ∃ A cap, v = .slice A xs.length cap ∧ xs.length ≤ cap ∧ cap ≤ maxLen ∧ (A = none → xs.length = 0 ∧ cap = 0) := by
  obtain ⟨_, h⟩ := h
  rcases h with ⟨e1, A, e2⟩ | ⟨g, cap, cur, e1, _, _, _, _, h1, h2, _⟩
  · subst e1; exact ⟨A, 0, e2, Nat.le_refl _, Nat.zero_le _, fun _ => ⟨rfl, rfl⟩⟩
  · exact ⟨_, cap, e1, h1, h2, fun h => by cases h⟩

theorem run_ix {t : TypeId} {x i : Operand} {e : TypeId} {sz : Nat} {b off n cap : Nat} {k : IntKind} {j : Int} (ho : o.op = .indexAddr t x i) (ht : P.underlying t = some (.slice e)) (hs : szT P e = some sz)
    (hx : a.eval x = .slice (some ⟨b, off, none⟩) n cap) (hi : a.eval i = .int k j) (h0 : 0 ≤ j) (h1 : j < n) : (execOp a.eval o).run P w = .ok (.value (.pointer (some ⟨b, off + j.toNat * sz, none⟩))) w := by
  unfold execOp
  rw [ho]
  refine run_v ?_
  simp only [Instr.indexAt, hx, hi, asIntOf, Sem.run_bind, Sem.run_pure, Result.andThen_ok, run_underlying ht]
  rw [if_pos ⟨h0, h1⟩]
  simp only [Sem.run_bind, run_sizeOf hs, Result.andThen_ok, Sem.run_pure, Addr.add_lit]
theorem sound_ix (hi : Inv O F0 w0 M F s.env s.mem a w) {t : TypeId} {x i : Operand} {ax ai : AX} {e : TypeId} {sz : Nat} (ho : o.op = .indexAddr t x i) (ht : P.underlying t = some (.slice e)) (hs : szT P e = some sz)
    (hx : trX x = some ax) (hix : trX i = some ai) (hK : kIx sz (ev s.env ax) (ev s.env ai) s.mem (kPut o.dst s K)) : o.wp P a w (Gd O F0 w0 K) Q := by
  have h1 := trX_ok hx hi
  have h2 := trX_ok hix hi
  cases hd1 : ev s.env ax <;> rw [hd1] at hK h1 <;> first | exact hK.elim | skip
  · rename_i z xs
    cases hd2 : ev s.env ai <;> rw [hd2] at hK h2 <;> first | exact hK.elim | skip
    rename_i k n
    obtain ⟨rfl, g1, g2, g3⟩ := hK
    obtain ⟨A, cap, e1, c1, c2, c3, c4⟩ := RV_sl h1
    have hlt : n.toNat < xs.length := by omega
    rcases c4 with c4 | ⟨b, off, rfl, c5⟩
    · subst c4; simp at hlt
    · refine wp_put (run_ix ho ht hs e1 (RV_int h2) g1 g2) hi ?_ g3
      show RF F w _ _
      rw [RF]
      refine ⟨b, _, rfl, ?_⟩
      have hx : xs[n.toNat]? = some xs[n.toNat] := List.getElem?_eq_getElem hlt
      have := (c5.get n.toNat _ hx).2
      simpa [List.getD, hx] using this
  · rename_i k
    cases hd2 : ev s.env ai <;> rw [hd2] at hK h2 <;> first | exact hK.elim | skip
    rename_i k' n
    simp only [kIx] at hK
    cases hm : mget s.mem k with
    | none => rw [hm] at hK; exact hK.elim
    | some blk =>
      rw [hm] at hK
      cases blk with
      | box cs => exact hK.elim
      | mp kk es => exact hK.elim
      | vec e' s' xs =>
        obtain ⟨rfl, g1, g2, g3⟩ := hK
        have hM : M k = some (a.eval x) := (show RVc M F w (.ow k) _ from h1).1
        obtain ⟨b, cap, arr, e1, e2, e3⟩ := hi.vecAt hm hM (i := n.toNat) (by omega)
        refine wp_put (run_ix ho ht hs e1 (RV_int h2) g1 g2) hi (mk_ve (M := M) (by rw [hM, e1]) (by omega)) g3
theorem sound_ixp (hi : Inv O F0 w0 M F s.env s.mem a w) {t : TypeId} {x i : Operand} {ax ai : AX} {e : TypeId} {len sz : Nat} (ho : o.op = .indexAddr t x i) (ht : P.underlying t = some (.array len e)) (hs : szT P e = some sz)
    (hx : trX x = some ax) (hix : trX i = some ai) (hK : kIxp len sz (ev s.env ax) (ev s.env ai) (kPut o.dst s K)) : o.wp P a w (Gd O F0 w0 K) Q := by
  have h1 := trX_ok hx hi
  have h2 := trX_ok hix hi
  have run : ∀ {b off : Nat} {k : IntKind} {j : Int}, a.eval x = .pointer (some ⟨b, off, none⟩) → a.eval i = .int k j → 0 ≤ j → j < len → (execOp a.eval o).run P w = .ok (.value (.pointer (some ⟨b, off + j.toNat * sz, none⟩))) w := by
    intro b off k j hx hi h0 h1
    unfold execOp
    rw [ho]
    refine run_v ?_
    simp only [Instr.indexAt, hx, hi, asIntOf, Sem.run_bind, Sem.run_pure, Result.andThen_ok, run_underlying ht, Instr.sureAddr]
    rw [if_pos ⟨h0, h1⟩]
    simp only [Sem.run_bind, run_sizeOf hs, Result.andThen_ok, Sem.run_pure, Addr.add_lit]
  cases hd1 : ev s.env ax <;> rw [hd1] at hK h1 <;> first | exact hK.elim | skip
  · rename_i cs
    cases hd2 : ev s.env ai <;> rw [hd2] at hK h2 <;> first | exact hK.elim | skip
    rename_i k n
    obtain ⟨g1, g2, g3⟩ := hK
    obtain ⟨b, off, e1, e2⟩ := RV_pf h1
    refine wp_put (run e1 (RV_int h2) g1 g2) hi ?_ g3
    show RF F w _ _
    rw [RF]
    exact ⟨b, _, rfl, e2.drop _⟩
  · rename_i k off
    cases hd2 : ev s.env ai <;> rw [hd2] at hK h2 <;> first | exact hK.elim | skip
    rename_i k' n
    obtain ⟨g1, g2, g3⟩ := hK
    obtain ⟨b, e1, e2⟩ := (show RVc M F w (.ml k off) _ from h1)
    exact wp_put (run e2 (RV_int h2) g1 g2) hi (mk_ml e1) g3
theorem sound_ixv (hi : Inv O F0 w0 M F s.env s.mem a w) {t : TypeId} {x i : Operand} {ax ai : AX} {e : TypeId} {len sz : Nat} {d : TypeDesc} (ho : o.op = .index t x i) (ht : P.underlying t = some (.array len e)) (hs : szT P e = some sz) (hd : P.underlying e = some d)
    (hx : trX x = some ax) (hix : trX i = some ai) (hK : kIxv (isAggD d) len sz (ev s.env ax) (ev s.env ai) (kPut o.dst s K)) : o.wp P a w (Gd O F0 w0 K) Q := by
  have h1 := trX_ok hx hi
  have h2 := trX_ok hix hi
  cases hd1 : ev s.env ax <;> rw [hd1] at hK h1 <;> first | exact hK.elim | skip
  rename_i cs
  cases hd2 : ev s.env ai <;> rw [hd2] at hK h2 <;> first | exact hK.elim | skip
  rename_i k n
  obtain ⟨g1, g2, g3⟩ := hK
  obtain ⟨arr, e1, q1, q2⟩ := RV_agg h1
  have hk : takeK (isAggD d) sz (cs.drop (n.toNat * sz)) (kPut o.dst s K) := by
    cases hag : isAggD d with
    | true =>
      rw [hag] at g3
      refine ⟨by have := g3.1; simp; omega, ?_⟩
      rw [mkAgg_of_fz fun d hd => All2_isFz q2 d (List.mem_of_mem_drop (List.mem_of_mem_take hd))]
      exact g3.2
    | false => rw [hag] at g3; exact g3
  obtain ⟨y, v, r1, r2, r3⟩ := part_ok (P := P) (M := M) hd hs q1 (q2.mono fun _ _ => RVc_of_RF) (n.toNat * sz) hk
  refine wp_put ?_ hi r2 r3
  unfold execOp
  rw [ho]
  refine run_v ?_
  simp only [Instr.index, RV_int h2, e1, asIntOf, Sem.run_bind, Sem.run_pure, Result.andThen_ok, run_underlying ht]
  rw [if_pos ⟨g1, g2⟩]
  simp only [Sem.run_bind, run_sizeOf hs, Result.andThen_ok, r1]
theorem sound_ixs (hi : Inv O F0 w0 M F s.env s.mem a w) {t : TypeId} {x i : Operand} {ax ai : AX} (ho : o.op = .index t x i) (ht : P.underlying t = some .string)
    (hx : trX x = some ax) (hix : trX i = some ai) (hK : kIxs (ev s.env ax) (ev s.env ai) (kPut o.dst s K)) : o.wp P a w (Gd O F0 w0 K) Q := by
  have h1 := trX_ok hx hi
  have h2 := trX_ok hix hi
  cases hd1 : ev s.env ax <;> rw [hd1] at hK h1 <;> first | exact hK.elim | skip
  rename_i l
  cases hd2 : ev s.env ai <;> rw [hd2] at hK h2 <;> first | exact hK.elim | skip
  rename_i k n
  obtain ⟨g1, g2, g3⟩ := hK
  refine wp_put ?_ hi (mk_int _ _) g3
  unfold execOp
  rw [ho]
  refine run_v ?_
  have hlt : n.toNat < l.length := by omega
  have hb : (ByteArray.mk l.toArray)[n.toNat]? = some (l.getD n.toNat 0) := by
    have : (ByteArray.mk l.toArray)[n.toNat]? = l[n.toNat]? := by
      show (if h : n.toNat < (ByteArray.mk l.toArray).size then some _ else none) = _
      rw [dif_pos (by rw [ofList_size]; exact hlt)]
      rw [List.getElem?_eq_getElem hlt]
      rfl
    rw [this, List.getElem?_eq_getElem hlt]
    simp [List.getD, List.getElem?_eq_getElem hlt]
  simp only [Instr.index, RV_int h2, (RV_str h1).1, asIntOf, Sem.run_bind, Sem.run_pure, Result.andThen_ok, run_underlying ht, if_pos g1, hb]

/-! ### cuts -/
def RO (M : Hnd) (F : Frz) (w : World) : Option DV → Option Value → Prop
  | none, v => v = none
  | some d, v => ∃ u, v = some u ∧ RV M F w d u
theorem trO_ok {env : List DV} {mem : Mem} {x : Option Operand} {ax : Option AX} (h : trO x = some ax) (hi : Inv O F0 w0 M F env mem a w) : RO M F w (evO env ax) (x.map a.eval) := by
  cases x with
  | none => simp only [trO, Option.some.injEq] at h; subst h; rfl
  | some x =>
    simp only [trO, Option.map_eq_some_iff] at h
    obtain ⟨y, h1, h2⟩ := h
    subst h2
    exact ⟨_, rfl, trX_ok h1 hi⟩
theorem bounds_ok {isSlice : Bool} {len cap : Nat} (hc : len ≤ cap) {lo hi : Option DV} {lov hiv : Option Value} (hlo : RO M F w lo lov) (hhi : RO M F w hi hiv) {X : Nat → Nat → Prop}
    (h : bndK hi len fun h => bndK lo 0 fun l => l ≤ h ∧ h ≤ len ∧ X l h) : ∃ l h, (Instr.sliceBounds isSlice len cap lov hiv none).run P w = .ok (l, h, cap) w ∧ l ≤ h ∧ h ≤ len ∧ X l h := by
  have low : ∀ (h : Nat), (bndK lo 0 fun l => l ≤ h ∧ h ≤ len ∧ X l h) → ∃ l, (match lov with
      | some v => Instr.sliceBound v h .sliceB
      | none => pure 0 : Sem Nat).run P w = .ok l w ∧ l ≤ h ∧ h ≤ len ∧ X l h := by
    intro h hb
    cases lo with
    | none =>
      have e : lov = none := hlo
      subst e
      exact ⟨0, rfl, hb⟩
    | some d =>
      obtain ⟨u, rfl, hu⟩ := hlo
      cases d <;> first | exact hb.elim | skip
      rename_i k n
      obtain ⟨h0, h1, h2, h3⟩ := hb
      refine ⟨n.toNat, ?_, h1, h2, h3⟩
      rw [RV_int hu]
      simp only [Instr.sliceBound, asIntOf, Sem.run_bind, Sem.run_pure, Result.andThen_ok]
      rw [if_pos ⟨h0, by omega⟩]
      rfl
  cases hi with
  | none =>
    have e : hiv = none := hhi
    subst e
    obtain ⟨l, r1, r2⟩ := low len h
    refine ⟨l, len, ?_, r2⟩
    simp only [Instr.sliceBounds, Sem.run_bind, Sem.run_pure, Result.andThen_ok, Option.isSome_none, Bool.false_eq_true, if_false]
    cases lov <;> simp only [r1, Result.andThen_ok, Sem.run_pure] <;> simp_all
  | some d =>
    obtain ⟨u, rfl, hu⟩ := hhi
    cases d <;> first | exact h.elim | skip
    rename_i k n
    obtain ⟨h0, hb⟩ := h
    obtain ⟨l, r1, r2, r3, r4⟩ := low n.toNat hb
    refine ⟨l, n.toNat, ?_, r2, r3, r4⟩
    rw [RV_int hu]
    simp only [Instr.sliceBounds, Sem.run_bind, Sem.run_pure, Result.andThen_ok, Option.isSome_none, Bool.false_eq_true, if_false]
    have e : ∀ c : BoundsCode, (Instr.sliceBound (.int k n) cap c).run P w = .ok n.toNat w := by
      intro c
      simp only [Instr.sliceBound, asIntOf, Sem.run_bind, Sem.run_pure, Result.andThen_ok]
      rw [if_pos ⟨h0, by omega⟩]
      rfl
    rw [e]
    simp only [Result.andThen_ok]
    cases lov <;> simp only [r1, Result.andThen_ok, Sem.run_pure] <;> simp_all
end
end Go.Proofs.YtcolebkklojccaaGreat.E
