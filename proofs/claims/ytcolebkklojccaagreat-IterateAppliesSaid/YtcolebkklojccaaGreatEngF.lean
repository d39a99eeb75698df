/-
  The engine, part F: the steps are sound: operations that only reckon and read.
-/
import Derived.Test.YtcolebkklojccaaGreatEngE
set_option linter.unusedVariables false
set_option linter.unusedSimpArgs false
namespace Go.Proofs.YtcolebkklojccaaGreat.E
open Go

theorem constS_ok {v : Value} {d : DV} (h : constS v = some d) (F : Frz) (w : World) : RF F w d v ∧ v.oneCell' = true := by
  unfold constS at h
  split at h <;> try (cases h; done)
  · cases h; rw [RF]; exact ⟨rfl, rfl⟩
  · cases h; rw [RF]; exact ⟨rfl, rfl⟩
  · split at h
    · rename_i hl
      cases h; rw [RF]; exact ⟨⟨rfl, hl⟩, rfl⟩
    · cases h
  · cases h; rw [RF]; exact ⟨rfl, rfl⟩
  · cases h; rw [RF]; exact ⟨⟨_, rfl⟩, rfl⟩
  · cases h; rw [RF]; exact ⟨rfl, rfl⟩
  · cases h; rw [RF]; exact ⟨rfl, rfl⟩
  · cases h; rw [RF]; exact ⟨trivial, rfl⟩
theorem constL_ok : ∀ {vs : List Value} {ds : List DV}, constL vs = some ds → ∀ (F : Frz) (w : World), RFs F w ds vs ∧ (∀ u ∈ vs, u.oneCell' = true)
  | [], ds, h, F, w => by simp only [constL, Option.some.injEq] at h; subst h; rw [RFs]; exact ⟨rfl, by simp⟩
  | v :: vs, ds, h, F, w => by
      simp only [constL] at h
      split at h
      · rename_i d ds' h1 h2
        cases h
        have a1 := constS_ok h1 F w
        have a2 := constL_ok h2 F w
        rw [RFs]
        exact ⟨⟨v, vs, rfl, a1.1, a2.1⟩, by simpa using ⟨a1.2, a2.2⟩⟩
      · cases h
theorem isFz_constS {v : Value} {d : DV} (h : constS v = some d) : isFz d = true := by
  unfold constS at h
  split at h <;> first | (cases h; done) | (cases h; rfl) | (split at h <;> first | (cases h; done) | (cases h; rfl))
theorem constL_fz : ∀ {vs : List Value} {ds : List DV}, constL vs = some ds → ds.all isFz = true
  | [], ds, h => by simp only [constL, Option.some.injEq] at h; subst h; rfl
  | v :: vs, ds, h => by
      simp only [constL] at h
      split at h
      · rename_i d ds' h1 h2
        cases h
        simp [isFz_constS h1, constL_fz h2]
      · cases h
theorem constD_ok {v : Value} {d : DV} (h : constD v = some d) (F : Frz) (w : World) : RF F w d v ∧ isFz d = true := by
  unfold constD at h
  split at h
  · rename_i cs
    simp only [Option.map_eq_some_iff] at h
    obtain ⟨ds, h1, h2⟩ := h
    subst h2
    rw [RF]
    exact ⟨⟨cs, rfl, (constL_ok h1 F w).2, (constL_ok h1 F w).1⟩, rfl⟩
  · split at h
    · rename_i h1; subst h1
      split at h
      · rename_i h2; subst h2
        cases h
        rw [RF]
        exact ⟨⟨#[], rfl, by rw [RFs]⟩, rfl⟩
      · cases h
    · cases h
  · exact ⟨(constS_ok h F w).1, isFz_constS h⟩

section
variable {P : Program} {O : Nat → Prop} {F0 : Frz} {w0 : World} {M : Hnd} {F : Frz} {env : List DV} {mem : Mem} {a : Act} {w w' : World}

theorem trX_ok {x : Operand} {ax : AX} (h : trX x = some ax) (hi : Inv O F0 w0 M F env mem a w) : RV M F w (ev env ax) (a.eval x) := by
  cases x with
  | tmp t => simp only [trX, Option.some.injEq] at h; subst h; exact hi.get t
  | const v =>
    simp only [trX, Option.map_eq_some_iff] at h
    obtain ⟨d, h1, h2⟩ := h
    subst h2
    have := constD_ok h1 F w
    exact (RV_fz this.2).2 this.1
  | global g => simp [trX] at h
  | func f =>
    simp only [trX, Option.some.injEq] at h; subst h
    show RF F w (.fn f []) _
    rw [RF]
    exact ⟨#[], rfl, by rw [RFs]⟩
theorem trXs_ok : ∀ {xs : List Operand} {as : List AX}, trXs xs = some as → Inv O F0 w0 M F env mem a w → All2 (RV M F w) (evs env as) (xs.map a.eval)
  | [], as, h, hi => by simp only [trXs, Option.some.injEq] at h; subst h; exact All2.nil
  | x :: xs, as, h, hi => by
      simp only [trXs] at h
      split at h
      · rename_i b bs h1 h2
        cases h
        exact All2.cons (trX_ok h1 hi) (trXs_ok h2 hi)
      · cases h

/-- where an operation's end is spoken of at data level -/
def Gd (O : Nat → Prop) (F0 : Frz) (w0 : World) (K : DS → Prop) (a : Act) (w : World) : Prop := ∃ s M F, Inv O F0 w0 M F s.env s.mem a w ∧ K s

/-- every old block is as it was -/
def Ext (w w' : World) : Prop := ∀ b, b < w.heap.size → w'.heap[b]? = w.heap[b]?
def GdE (w1 : World) (O : Nat → Prop) (F0 : Frz) (w0 : World) (K : DS → Prop) (a : Act) (w : World) : Prop := Gd O F0 w0 K a w ∧ Ext w1 w

variable {s : DS} {K : DS → Prop} {Q : Exit → Act → World → Prop} {o : Oper}

theorem put_ok (hi : Inv O F0 w0 M F s.env s.mem a w) {dst : Option Nat} {d : DV} {v : Value} (hR : RV M F w d v) (hK : kPut dst s K d) : Gd O F0 w0 K (a.put dst v) w := by
  cases dst with
  | none => exact ⟨s, M, F, hi, hK⟩
  | some k => exact ⟨⟨stp s.env k d, s.mem⟩, M, F, hi.put k hR, hK⟩
theorem wp_put {w' : World} {d : DV} {v : Value} (hrun : (execOp a.eval o).run P w = .ok (.value v) w') (hi : Inv O F0 w0 M F s.env s.mem a w') (hR : RV M F w' d v) (hK : kPut o.dst s K d) : o.wp P a w (Gd O F0 w0 K) Q := by
  unfold Oper.wp
  rw [hrun]
  exact put_ok hi hR hK
theorem wp_bind {w' : World} {d : DV} {v u : Value} {blk : Blk} (hrun : (execOp a.eval o).run P w = .ok (.value v) w') (hi : Inv O F0 w0 M F s.env s.mem a w') 
    (hb : ∀ k, BlkOK (upd M k u) F w' (Nw O w0) k blk) (hd : ∀ k j blk' v b, j ≠ k → mget s.mem j = some blk' → M j = some v → hblk v = some b → hblk u ≠ some b)
    (hR : ∀ k, o.dst = some k → RV (upd M k u) F w' d v) (hK : kBind o.dst s K d blk) : o.wp P a w (Gd O F0 w0 K) Q := by
  unfold Oper.wp
  rw [hrun]
  cases hdst : o.dst with
  | none => rw [hdst] at hK; exact hK.elim
  | some k =>
    rw [hdst] at hK
    show Gd O F0 w0 K (a.put o.dst v) w'
    rw [hdst]
    exact ⟨_, _, F, (hi.bind k u blk (hb k) (hd k)).put k (hR k hdst), hK⟩

/-! ### what the values are -/
theorem RV_bool {b : Bool} {v : Value} (h : RV M F w (.bool b) v) : v = .bool b := by
  have h : RF F w (.bool b) v := h
  rw [RF] at h; exact h
theorem RV_int {k : IntKind} {n : Int} {v : Value} (h : RV M F w (.int k n) v) : v = .int k n := by
  have h : RF F w (.int k n) v := h
  rw [RF] at h; exact h
theorem RV_str {l : List UInt8} {v : Value} (h : RV M F w (.str l) v) : v = .string ⟨l.toArray⟩ ∧ l.length ≤ maxLen := by
  have h : RF F w (.str l) v := h
  rw [RF] at h; exact h
theorem RV_agg {cs : List DV} {v : Value} (h : RV M F w (.agg cs) v) : ∃ arr : Array Value, v = .agg arr ∧ (∀ u ∈ arr.toList, u.oneCell' = true) ∧ All2 (RF F w) cs arr.toList := by
  have h : RF F w (.agg cs) v := h
  rw [RF] at h
  obtain ⟨arr, e, h1, h2⟩ := h
  exact ⟨arr, e, h1, RFs_iff.1 h2⟩
theorem mk_bool (b : Bool) : RV M F w (.bool b) (.bool b) := by show RF F w _ _; rw [RF]
theorem mk_int (k : IntKind) (n : Int) : RV M F w (.int k n) (.int k n) := by show RF F w _ _; rw [RF]
theorem mk_str (l : List UInt8) (h : l.length ≤ maxLen) : RV M F w (.str l) (.string ⟨l.toArray⟩) := by show RF F w _ _; rw [RF]; exact ⟨rfl, h⟩
theorem RV_of_RF {d : DV} {v : Value} (h : RF F w d v) : RV M F w d v := by
  cases d <;> first | exact h | (simp only [RF] at h)
theorem RVc_of_RF {d : DV} {v : Value} (h : RF F w d v) : RVc M F w d v := by
  cases d <;> first | exact h | (simp only [RF] at h)

theorem ofList_size (l : List UInt8) : (ByteArray.mk l.toArray).size = l.length := rfl
theorem append_mk (a b : List UInt8) : (ByteArray.mk a.toArray) ++ (ByteArray.mk b.toArray) = ByteArray.mk (a ++ b).toArray := by
  apply ByteArray.ext
  simp

theorem eqGuard_ok (op : BinOp) (t : TypeId) (x y : Operand) (u v : Value) (h : match u with | .bool _ | .int _ _ | .string _ => true | _ => false) : eqGuard op t x y u v = pure () := by
  cases u <;> simp at h
  · exact eqGuard_at_bool ..
  · exact eqGuard_at_int ..
  · exact eqGuard_at_string ..

theorem binI_ok {op : BinOp} {k : IntKind} {x y : Int} {K : DV → Prop} (t : TypeId) (h : binI op k x y K) : ∃ d v, (binOp op t (.int k x) (.int k y)).run P w = .ok v w ∧ (∀ (M : Hnd) (F : Frz), RV M F w d v) ∧ K d := by
  cases op <;> simp only [binI] at h
  case add => exact ⟨_, _, by rw [binOp_add]; rfl, fun _ _ => mk_int _ _, h⟩
  case sub => exact ⟨_, _, by rw [binOp_sub]; rfl, fun _ _ => mk_int _ _, h⟩
  case mul => exact ⟨_, _, by rw [binOp_mul]; rfl, fun _ _ => mk_int _ _, h⟩
  case quo => exact ⟨_, _, by rw [binOp_quo]; unfold Op.intDiv; rw [if_neg h.1]; rfl, fun _ _ => mk_int _ _, h.2⟩
  case rem => exact ⟨_, _, by rw [binOp_rem]; unfold Op.intDiv; rw [if_neg h.1]; rfl, fun _ _ => mk_int _ _, h.2⟩
  case and => exact ⟨_, _, by rw [binOp_and]; rfl, fun _ _ => mk_int _ _, h⟩
  case or => exact ⟨_, _, by rw [binOp_or]; rfl, fun _ _ => mk_int _ _, h⟩
  case xor => exact ⟨_, _, by rw [binOp_xor]; rfl, fun _ _ => mk_int _ _, h⟩
  case eql => exact ⟨_, _, by rw [binOp_eql]; rfl, fun _ _ => mk_bool _, h⟩
  case neq => exact ⟨_, _, by rw [binOp_neq]; rfl, fun _ _ => mk_bool _, h⟩
  case lss => exact ⟨_, _, by rw [binOp_lss]; rfl, fun _ _ => mk_bool _, h⟩
  case leq => exact ⟨_, _, by rw [binOp_leq]; rfl, fun _ _ => mk_bool _, h⟩
  case gtr => exact ⟨_, _, by rw [binOp_gtr]; rfl, fun _ _ => mk_bool _, h⟩
  case geq => exact ⟨_, _, by rw [binOp_geq]; rfl, fun _ _ => mk_bool _, h⟩
theorem binS_ok {op : BinOp} {x y : List UInt8} {K : DV → Prop} (t : TypeId) (h : binS op x y K) : ∃ d v, (binOp op t (.string ⟨x.toArray⟩) (.string ⟨y.toArray⟩)).run P w = .ok v w ∧ (∀ (M : Hnd) (F : Frz), RV M F w d v) ∧ K d := by
  cases op <;> simp only [binS] at h
  case add =>
    refine ⟨_, _, ?_, fun _ _ => mk_str _ (by simpa using h.1), h.2⟩
    have : ¬ (((ByteArray.mk x.toArray).size + (ByteArray.mk y.toArray).size : Nat) : Int) > IntKind.i64.max := by
      have := h.1
      rw [ofList_size, ofList_size, IntKind.max_i64]
      simp only [maxLen] at this
      omega
    simp only [binOp, Op.stringOp, if_neg this, append_mk]
    rfl
  case eql => exact ⟨_, _, by simp only [binOp, Op.stringOp, ByteArray.toList_mk]; rfl, fun _ _ => mk_bool _, h⟩
  case neq => exact ⟨_, _, by simp only [binOp, Op.stringOp, ByteArray.toList_mk]; rfl, fun _ _ => mk_bool _, h⟩
  case lss => exact ⟨_, _, by simp only [binOp, Op.stringOp, ByteArray.toList_mk]; rfl, fun _ _ => mk_bool _, h⟩
  case leq => exact ⟨_, _, by simp only [binOp, Op.stringOp, ByteArray.toList_mk]; rfl, fun _ _ => mk_bool _, h⟩
  case gtr => exact ⟨_, _, by simp only [binOp, Op.stringOp, ByteArray.toList_mk]; rfl, fun _ _ => mk_bool _, h⟩
  case geq => exact ⟨_, _, by simp only [binOp, Op.stringOp, ByteArray.toList_mk]; rfl, fun _ _ => mk_bool _, h⟩
theorem binB_ok {x y : Bool} {t : TypeId} (ht : P.underlying t = some .bool) : ((binOp .eql t (.bool x) (.bool y)).run P w = .ok (.bool (x == y)) w) ∧ ((binOp .neq t (.bool x) (.bool y)).run P w = .ok (.bool (!(x == y))) w) := by
  exact ⟨run_eql_bool w t x y ht, run_neq_bool w t x y ht⟩
end
end Go.Proofs.YtcolebkklojccaaGreat.E
