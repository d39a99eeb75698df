/-
  The iterator that runs through the wanted events from the last one on: its contract.
-/
import Derived.Test.YtamcbdflmephdaaFiV
import Derived.Tactics
import Derived.TacticsIn
import Derived.OrdersIn
set_option linter.unusedVariables false
set_option linter.unusedSimpArgs false
set_option linter.unusedSimpArgs false
set_option linter.unusedVariables false
set_option maxRecDepth 100000
set_option maxHeartbeats 2000000
namespace Go.Proofs.Ytamcbdflmephdaa.E
open Go
def ysW (f : Flt) (es : List Ev) : List (List DV) := (es.filter (wants f)).reverse.map fun e => [.agg (encEv e)]
/-- how many were handed over when the first k are left -/
def cntW (f : Flt) (es : List Ev) (k : Nat) : Nat := ((es.drop k).filter (wants f)).length
theorem cntW_end (f : Flt) (es : List Ev) : cntW f es es.length = 0 := by simp [cntW]
theorem cntW_all (f : Flt) (es : List Ev) : cntW f es 0 = (ysW f es).length := by simp [cntW, ysW]
theorem cntW_drop {f : Flt} {es : List Ev} {k : Nat} {e : Ev} (h : es[k]? = some e) : es.drop k = e :: es.drop (k + 1) := by
  obtain ⟨hk, h'⟩ := List.getElem?_eq_some_iff.1 h
  rw [List.drop_eq_getElem_cons hk, h']
theorem cntW_no {f : Flt} {es : List Ev} {k : Nat} {e : Ev} (h : es[k]? = some e) (hw : wants f e = false) : cntW f es k = cntW f es (k + 1) := by
  unfold cntW
  rw [cntW_drop (f := f) h, List.filter_cons, if_neg (by simp [hw])]
theorem cntW_yes {f : Flt} {es : List Ev} {k : Nat} {e : Ev} (h : es[k]? = some e) (hw : wants f e = true) : cntW f es k = cntW f es (k + 1) + 1 := by
  unfold cntW
  rw [cntW_drop (f := f) h, List.filter_cons, if_pos hw]
  rfl
theorem ysW_get {f : Flt} {es : List Ev} {k : Nat} {e : Ev} (h : es[k]? = some e) (hw : wants f e = true) : (ysW f es)[cntW f es (k + 1)]? = some [.agg (encEv e)] := by
  unfold ysW cntW
  have h1 : es.filter (wants f) = (es.take k).filter (wants f) ++ e :: (es.drop (k + 1)).filter (wants f) := by
    conv => lhs; rw [← List.take_append_drop k es, List.filter_append, cntW_drop (f := f) h, List.filter_cons, if_pos hw]
  rw [h1, List.reverse_append, List.map_append, List.reverse_cons, List.map_append, List.append_assoc, List.getElem?_append_right (by simp)]
  simp
def NoO : Nat → Prop := fun _ => False
def yldV (l : Nat) : Value := .func (.yield l) #[] #[]
def hY (l : Nat) : Hnd := fun k => if k = 0 then some (yldV l) else none
structure LI (l : Nat) (v1 v2 : Value) (a : Act) : Prop where
  d : a.defers = []
  s : a.tmps.size = 27
  t0 : a.tmps[0]? = some (yldV l)
  t1 : a.tmps[1]? = some v1
  t2 : a.tmps[2]? = some v2
theorem mkInv {l : Nat} {v1 v2 v4 : Value} {f : Flt} {es : List Ev} {d : DV} {F : Frz} {w : World} {a : Act} (h : LI l v1 v2 a) (hf : ∀ b o, F b o → b < w.heap.size) (r1 : RF F w (.pf [.sl 29 (es.map encEv)]) v1) (r2 : RF F w (.pf (encFl f)) v2)
    (h4 : a.tmps[4]? = some v4) (hd : isFz d = true) (r4 : RF F w d v4) : Inv NoO F w (hY l) F (E56 f es d) [] a w := by
  refine ⟨h.d, ?_, fun k blk hk => by simp [mget] at hk, fun k k' blk blk' v v' b hk => by simp [mget] at hk, ⟨fun _ _ h => h, fun _ _ h => .inl h, hf, Nat.le_refl _, fun _ _ _ => rfl, rfl, rfl, rfl⟩⟩
  refine All2.of_get (by simp [E56, h.s]) fun i d' v hi hv => ?_
  have hlen : i < 27 := by
    have := (List.getElem?_eq_some_iff.1 hi).1
    simpa [E56] using this
  have hv : a.tmps[i]? = some v := by simpa using hv
  match i, hlen with
  | 0, _ => rw [h.t0] at hv; cases hv; cases hi; exact ⟨rfl, rfl⟩
  | 1, _ => rw [h.t1] at hv; cases hv; cases hi; exact r1
  | 2, _ => rw [h.t2] at hv; cases hv; cases hi; exact r2
  | 3, _ => cases hi; exact RV_RVc (RVc_any (M := hY l) (F := F) (w := w) (v := v))
  | 4, _ => rw [h4] at hv; cases hv; cases hi; exact (RV_fz hd).2 r4
  | i + 5, hl =>
    have : d' = .any := by
      have e : (E56 f es d)[i + 5]? = (List.replicate 22 DV.any)[i]? := rfl
      rw [e, List.getElem?_replicate] at hi
      split at hi
      · cases hi; rfl
      · cases hi
    subst this
    exact RV_RVc (RVc_any (M := hY l) (F := F) (w := w) (v := v))
section
variable {l n : Nat} {v1 v2 v4 : Value} {f : Flt} {es : List Ev} {d : DV} {F : Frz} {w : World} {a : Act}
theorem LI.of_inv {O : Nat → Prop} {F0 F' : Frz} {w0 w' : World} {M : Hnd} {env : List DV} {mem : Mem} {a a' : Act} (h : LI l v1 v2 a) (hi : Inv O F0 w0 M F' env mem a' w') (hl : env.length = 27) (hv : Av [0, 1, 2] a.tmps a') : LI l v1 v2 a' :=
  ⟨hi.dl, by have := hi.ev.length; simp only [Array.length_toList] at this; omega, (hv 0 (by simp)).trans h.t0, (hv 1 (by simp)).trans h.t1, (hv 2 (by simp)).trans h.t2⟩
/-- a part of the code that hands nothing over -/
theorem piece {c : Code} {ac : AC} {Q : AE → DS → Prop} (hn : noDp ac = true) (ht : trCodeF Try.prog [] c = some (strip ac)) (hc : calmCode [0, 1, 2] c = true) (h : LI l v1 v2 a) (hf : ∀ b o, F b o → b < w.heap.size) (r1 : RF F w (.pf [.sl 29 (es.map encEv)]) v1) (r2 : RF F w (.pf (encFl f)) v2)
    (h4 : a.tmps[4]? = some v4) (hd : isFz d = true) (r4 : RF F w d v4) (hK : dwp Try.prog ac ⟨E56 f es d, []⟩ Q) (hQ : ∀ d s, ¬ Q (.pan d) s) (hl : ∀ e s, Q e s → s.env.length = 27) {R : Exit → Act → World → Prop}
    (hR : ∀ e e' s M F' a' w', (e = .normal ∧ e' = .normal ∨ (∃ id, e = .exit id ∧ e' = .exit id) ∨ (e = .ret ∧ e' = .ret)) → Q e' s → Inv NoO F w M F' s.env s.mem a' w' → LI l v1 v2 a' → R e a' w') : c.wpIn Fence.wide n Try.prog R a w := by
  have hi := mkInv (v4 := v4) h hf r1 r2 h4 hd r4
  have hi' : Inv NoO F w (hY l) F (E56 f es d) [] (less [] a) w := by
    have : less [] a = a := by rw [← h.d]; rfl
    rw [this]; exact hi
  show c.wpIn (Gf none) n Try.prog R a w
  refine wpIn_mono (dwpX_sound (ro := none) (n := n) (J := [0, 1, 2]) (t0 := a.tmps) (ds := []) ac hn ht hc (pre := []) h.d (fun j hj => rfl) (s := ⟨E56 f es d, []⟩) hi' hK) fun e a' w' hq => ?_
  have fin : ∀ e', Fr [0, 1, 2] a.tmps [] (Gd NoO F w (Q e')) a' w' → ∃ s M F', Q e' s ∧ Inv NoO F w M F' s.env s.mem a' w' ∧ LI l v1 v2 a' := by
    rintro e' ⟨pre, hd', hv, s', M', F', hi', hk'⟩
    have : less pre a' = a' := by
      rw [List.append_nil] at hd'
      rw [← hd']; rfl
    rw [this] at hi'
    exact ⟨s', M', F', hk', hi', h.of_inv hi' (hl _ _ hk') hv⟩
  cases e with
  | normal => obtain ⟨s, M, F', h1, h2, h3⟩ := fin _ hq; exact hR _ _ s M F' a' w' (.inl ⟨rfl, rfl⟩) h1 h2 h3
  | ret => obtain ⟨s, M, F', h1, h2, h3⟩ := fin _ hq; exact hR _ _ s M F' a' w' (.inr (.inr ⟨rfl, rfl⟩)) h1 h2 h3
  | exit id => obtain ⟨s, M, F', h1, h2, h3⟩ := fin _ hq; exact hR _ _ s M F' a' w' (.inr (.inl ⟨id, rfl, rfl⟩)) h1 h2 h3
  | panic ch => obtain ⟨_, _, _, _, _, _, _, _, _, _, _, h⟩ := hq; exact (hQ _ _ h).elim
  | _ => obtain ⟨_, _, _, h⟩ := hq; exact h.elim
end
def tyB : Nat := 4
theorem op56_12 : (rgO (g56 (Try.f56.body.getD .skip)))[12]? = some { dst := some 24, op := .call { callee := .value (.tmp 19), args := #[.tmp 23], argTypes := #[41] }, type := 4, pos := ((rgO (g56 (Try.f56.body.getD .skip))).getD 12 default).pos, after := ((rgO (g56 (Try.f56.body.getD .skip))).getD 12 default).after, guard := some (6, true) } := by kernel_rfl
theorem op56_13 : (rgO (g56 (Try.f56.body.getD .skip)))[13]? = some { dst := some 25, op := .unOp .not 4 (.tmp 24), type := 4, pos := ((rgO (g56 (Try.f56.body.getD .skip))).getD 13 default).pos, after := ((rgO (g56 (Try.f56.body.getD .skip))).getD 13 default).after, guard := some (6, true) } := by kernel_rfl
theorem op56_14 : (rgO (g56 (Try.f56.body.getD .skip)))[14]? = some { dst := some 26, op := .pick (.tmp 18) (.tmp 25) (.const (.bool false)), type := 4, pos := ((rgO (g56 (Try.f56.body.getD .skip))).getD 14 default).pos, after := ((rgO (g56 (Try.f56.body.getD .skip))).getD 14 default).after, guard := none } := by kernel_rfl
theorem dst56_6 : ((rgO (g56 (Try.f56.body.getD .skip)))[6]?).bind (·.dst) = some 18 := by kernel_rfl
theorem rdy12 : Region.ready .any (rgO (g56 (Try.f56.body.getD .skip))) tg56 = [12] := by kernel_rfl
theorem rdy13 : Region.ready .any (rgO (g56 (Try.f56.body.getD .skip))) (tg56.setIfInBounds 12 true) = [13] := by kernel_rfl
theorem rdy14 : Region.ready .any (rgO (g56 (Try.f56.body.getD .skip))) ((tg56.setIfInBounds 12 true).setIfInBounds 13 true) = [14] := by kernel_rfl
theorem rdy15 : Region.ready .any (rgO (g56 (Try.f56.body.getD .skip))) (((tg56.setIfInBounds 12 true).setIfInBounds 13 true).setIfInBounds 14 true) = [] := by kernel_rfl
theorem calm56 : calmOps [0, 1, 2] (rgO (g56 (Try.f56.body.getD .skip))) = true := by kernel_rfl
theorem build56 : ∃ al, trOpers Try.prog (rgO (g56 (Try.f56.body.getD .skip))) (rgO (g56 (Try.f56.body.getD .skip))).toList = some (stripL al) ∧
    buildM (rgO (g56 (Try.f56.body.getD .skip))) al 12 tg56 2 (rgO (g56 (Try.f56.body.getD .skip))).size (Array.replicate (rgO (g56 (Try.f56.body.getD .skip))).size false) = some dt56 := by
  have h := mk56
  unfold mkDM at h
  split at h
  · rename_i al hal
    exact ⟨al, by rw [trOpers_strip hal]; exact hal, h⟩
  · cases h
theorem sel56 : Region.noSelect (rgO (g56 (Try.f56.body.getD .skip))) = true := by kernel_rfl
theorem mix56 : Try.prog.follows .mixedOrders = true := by kernel_rfl
end Go.Proofs.Ytamcbdflmephdaa.E

set_option linter.unusedSimpArgs false
set_option linter.unusedVariables false
set_option maxRecDepth 100000
set_option maxHeartbeats 2000000
namespace Go.Proofs.Ytamcbdflmephdaa.E
open Go
theorem ev_tmp {a : Act} {t : Nat} {v : Value} (h : a.tmps[t]? = some v) : a.eval (.tmp t) = v := by simp [Act.eval, h]
theorem put_same {a : Act} {t : Nat} {u v : Value} (h : a.tmps[t]? = some u) : (a.put (some t) v).tmps[t]? = some v := by
  have := (Array.getElem?_eq_some_iff.1 h).1
  simp [Act.put, Array.getElem?_setIfInBounds_self, this]
theorem put_ne {a : Act} {t t' : Nat} {v : Value} (h : t ≠ t') : (a.put (some t) v).tmps[t']? = a.tmps[t']? := by
  simp [Act.put, Array.getElem?_setIfInBounds_ne h]
theorem LI.put {l : Nat} {v1 v2 v : Value} {a : Act} {t : Nat} (h : LI l v1 v2 a) (ht : 2 < t) : LI l v1 v2 (a.put (some t) v) :=
  ⟨h.d, by simp [Act.put, h.s], (put_ne (by omega)).trans h.t0, (put_ne (by omega)).trans h.t1, (put_ne (by omega)).trans h.t2⟩
theorem want56 {a : Act} {b : Bool} (h : a.tmps[18]? = some (.bool b)) (o : Oper) (ho : o.guard = some (6, true)) : Region.wanted o (yielded (rgO (g56 (Try.f56.body.getD .skip))) a.tmps) = b := by
  unfold Region.wanted
  rw [ho]
  have : yielded (rgO (g56 (Try.f56.body.getD .skip))) a.tmps 6 = some b := by
    unfold yielded
    rw [dst56_6, Option.bind_some, h]
  simp [this]
theorem want0 {ops : Array Oper} {a : Act} (o : Oper) (ho : o.guard = none) : Region.wanted o (yielded ops a.tmps) = true := by
  unfold Region.wanted
  rw [ho]
theorem slot_of {O : Nat → Prop} {F0 F : Frz} {w0 w : World} {M : Hnd} {env : List DV} {mem : Mem} {a : Act} (hi : Inv O F0 w0 M F env mem a w) {i : Nat} {d : DV} (h : env[i]? = some d) : ∃ v, a.tmps[i]? = some v ∧ RV M F w d v := by
  obtain ⟨v, e, r⟩ := hi.ev.get i d h
  exact ⟨v, by simpa using e, r⟩
def QR56 (l : Nat) (v1 v2 : Value) (k : Nat) (Jn : Frz → World → Prop) (Jx : World → Prop) (e : Exit) (a : Act) (w : World) : Prop :=
  e = .normal ∧ LI l v1 v2 a ∧ a.tmps[4]? = some (.int .i64 k) ∧ ((a.tmps[26]? = some (.bool true) ∧ Jx w) ∨ (a.tmps[26]? = some (.bool false) ∧ ∃ F, Jn F w))
theorem tail56 {l n k : Nat} {v1 v2 u24 u25 u26 : Value} {a : Act} {w : World} {b : Bool} {Jn : Frz → World → Prop} {Jx : World → Prop} (h : LI l v1 v2 a) (h4 : a.tmps[4]? = some (.int .i64 k)) (h18 : a.tmps[18]? = some (.bool true)) (h24 : a.tmps[24]? = some (.bool b)) (h25 : a.tmps[25]? = some u25) (h26 : a.tmps[26]? = some u26)
    (hj : (b = true ∧ ∃ F, Jn F w) ∨ (b = false ∧ Jx w)) : wpAnyIn (Gf none) n Try.prog .any (rgO (g56 (Try.f56.body.getD .skip))) (QR56 l v1 v2 k Jn Jx) 2 (tg56.setIfInBounds 12 true) a w := by
  refine wpAnyIn_ready rdy13 (by simp) fun i hi => ?_
  rw [List.mem_singleton] at hi
  subst hi
  unfold wpOpIn
  rw [op56_13]
  simp only []
  rw [if_pos (want56 h18 _ rfl)]
  refine opIn_val (v := .bool (!b)) (w' := w) (fun c h => by cases h) (by simp [execOp, ev_tmp h24]; rfl) ?_
  refine wpAnyIn_ready rdy14 (by simp) fun i hi => ?_
  rw [List.mem_singleton] at hi
  subst hi
  unfold wpOpIn
  rw [op56_14]
  simp only []
  have h25' := put_same (v := .bool (!b)) h25
  have h18' : (a.put (some 25) (.bool (!b))).tmps[18]? = some (.bool true) := (put_ne (by decide)).trans h18
  rw [if_pos (want0 _ rfl)]
  refine opIn_val (v := .bool (!b)) (w' := w) (fun c h => by cases h) (by simp [execOp, ev_tmp h18', ev_tmp h25']; rfl) ?_
  refine ⟨rdy15, rfl, (h.put (by decide)).put (by decide), (put_ne (by decide)).trans ((put_ne (by decide)).trans h4), ?_⟩
  have h26' : ((a.put (some 25) (.bool (!b))).put (some 26) (.bool (!b))).tmps[26]? = some (.bool (!b)) := put_same ((put_ne (by decide)).trans h26)
  rcases hj with ⟨rfl, hF⟩ | ⟨rfl, hx⟩
  · exact .inr ⟨h26', hF⟩
  · exact .inl ⟨h26', hx⟩
theorem skip56 {l n k : Nat} {v1 v2 u24 u25 u26 : Value} {a : Act} {w : World} {F : Frz} {Jn : Frz → World → Prop} {Jx : World → Prop} (h : LI l v1 v2 a) (h4 : a.tmps[4]? = some (.int .i64 k)) (h18 : a.tmps[18]? = some (.bool false)) (h26 : a.tmps[26]? = some u26)
    (hj : Jn F w) : wpAnyIn (Gf none) n Try.prog .any (rgO (g56 (Try.f56.body.getD .skip))) (QR56 l v1 v2 k Jn Jx) 3 tg56 a w := by
  refine wpAnyIn_ready rdy12 (by simp) fun i hi => ?_
  rw [List.mem_singleton] at hi
  subst hi
  unfold wpOpIn
  rw [op56_12]
  simp only []
  rw [if_neg (by rw [want56 h18 _ rfl]; decide)]
  refine ⟨fun _ _ => trivial, ?_⟩
  have h18' : (a.put (some 24) undef).tmps[18]? = some (.bool false) := (put_ne (by decide)).trans h18
  refine wpAnyIn_ready rdy13 (by simp) fun i hi => ?_
  rw [List.mem_singleton] at hi
  subst hi
  unfold wpOpIn
  rw [op56_13]
  simp only []
  rw [if_neg (by rw [want56 h18' _ rfl]; decide)]
  refine ⟨fun _ _ => trivial, ?_⟩
  have h18'' : ((a.put (some 24) undef).put (some 25) undef).tmps[18]? = some (.bool false) := (put_ne (by decide)).trans h18'
  refine wpAnyIn_ready rdy14 (by simp) fun i hi => ?_
  rw [List.mem_singleton] at hi
  subst hi
  unfold wpOpIn
  rw [op56_14]
  simp only []
  rw [if_pos (want0 _ rfl)]
  refine opIn_val (v := .bool false) (w' := w) (fun c h => by cases h) (by simp [execOp, ev_tmp h18'']; rfl) ?_
  refine ⟨rdy15, rfl, ((h.put (by decide)).put (by decide)).put (by decide), (put_ne (by decide)).trans ((put_ne (by decide)).trans ((put_ne (by decide)).trans h4)), .inr ⟨put_same ((put_ne (by decide)).trans ((put_ne (by decide)).trans h26)), F, hj⟩⟩
theorem round56 {f : Flt} {es : List Ev} {e : Ev} {k l n : Nat} {v1 v2 : Value} {F : Frz} {w : World} {a : Act} (hb : es.length ≤ 1000) (he : es[k]? = some e) {J : Nat → Frz → World → Prop} {Jx : World → Prop} (hJg : ∀ i F1 W1 F2 W2, J i F1 W1 → Grow (fun _ => False) F1 W1 F2 W2 → J i F2 W2)
    (hY : ∀ i F1 W1 y (args : List Value), J i F1 W1 → (ysW f es)[i]? = some y → All2 (RF F1 W1) y args → ∀ m, YieldAt Fence.wide m Try.prog l args.toArray W1 fun e W' =>
        (e = .returned (.bool true) ∧ ∃ F', J (i + 1) F' W') ∨ (e = .returned (.bool false) ∧ Jx W'))
    (h : LI l v1 v2 a) (hf : ∀ b o, F b o → b < w.heap.size) (r1 : RF F w (.pf [.sl 29 (es.map encEv)]) v1) (r2 : RF F w (.pf (encFl f)) v2) (h4 : a.tmps[4]? = some (.int .i64 k)) (hj : J (cntW f es (k + 1)) F w) :
    (Code.region 3 (rgO (g56 (Try.f56.body.getD .skip))) true).wpIn Fence.wide n Try.prog (QR56 l v1 v2 k (J (cntW f es k)) Jx) a w := by
  refine wpIn_region_any mix56 ?_
  obtain ⟨al, hal, hbm⟩ := build56
  have hi := (mkInv (d := .int .i64 k) h hf r1 r2 h4 rfl (by rw [RF])).drew
  have hT := buildM_sound (K := kG f e k) hal sel56 op56_12 _ _ dt56 ⟨E56 f es (.int .i64 k), []⟩ _ _ a _ hbm (by simp) hi (walkG f es k e he hb)
  refine wpAnyIn_of_T (ro := none) (J := [0, 1, 2]) (t0 := a.tmps) calm56 (fun _ _ h => h) (fun _ _ _ h => h) ?_ _ _ a _ (fun j hj => rfl) hT
  rintro fuel listed a2 w2 ⟨⟨rfl, rfl⟩, s2, M2, F2, hi2, g0, g1, g2, g3, g4⟩ hav
  have hli2 := h.of_inv hi2 g0 hav
  have hj2 := hJg _ _ _ _ _ hj hi2.grow
  obtain ⟨v4, e4, q4⟩ := slot_of hi2 g1
  have q4' : v4 = .int .i64 k := by
    have := (RV_fz (d := .int .i64 (k : Int)) rfl).1 q4
    rw [RF] at this
    exact this
  subst q4'
  obtain ⟨v18, e18, q18⟩ := slot_of hi2 g3
  have q18' : v18 = .bool (wants f e) := by
    have := (RV_fz (d := .bool (wants f e)) rfl).1 q18
    rw [RF] at this
    exact this
  subst q18'
  have hsz : ∀ i, i < 27 → ∃ u, a2.tmps[i]? = some u := fun i hi => ⟨a2.tmps[i]'(by rw [hli2.s]; exact hi), Array.getElem?_eq_getElem _⟩
  obtain ⟨u24, e24⟩ := hsz 24 (by decide)
  obtain ⟨u25, e25⟩ := hsz 25 (by decide)
  obtain ⟨u26, e26⟩ := hsz 26 (by decide)
  by_cases hw : wants f e = true
  · obtain ⟨g5, g6⟩ := g4 hw
    obtain ⟨v19, e19, q19, _⟩ := slot_of hi2 g5
    obtain ⟨v0, e0, q0, _⟩ := slot_of hi2 g2
    rw [q19] at q0
    cases q0
    rw [hli2.t0] at e0
    cases e0
    obtain ⟨v23, e23, q23⟩ := slot_of hi2 g6
    have q23' := (RV_fz (d := .agg (encEv e)) rfl).1 q23
    rw [hw] at e18
    refine wpAnyIn_ready rdy12 (by simp) fun i hi => ?_
    rw [List.mem_singleton] at hi
    subst hi
    unfold wpOpIn
    rw [op56_12]
    simp only []
    rw [if_pos (want56 e18 _ rfl)]
    refine op_yield rfl (ev_tmp e19) (ev_tmp e23) (hY _ F2 w2 _ [v23] hj2 (ysW_get he hw) (All2.cons q23' All2.nil) (n - 1)) ?_
    have hc := cntW_yes he hw
    have go : ∀ (b : Bool) w', ((b = true ∧ ∃ F, J (cntW f es k) F w') ∨ (b = false ∧ Jx w')) → wpAnyIn (Gf none) n Try.prog .any (rgO (g56 (Try.f56.body.getD .skip))) (QR56 l v1 v2 k (J (cntW f es k)) Jx) 2 (tg56.setIfInBounds 12 true) (a2.put (some 24) (.bool b)) w' :=
      fun b w' hb => tail56 (u24 := u24) (hli2.put (by decide)) ((put_ne (by decide)).trans e4) ((put_ne (by decide)).trans e18) (put_same e24) ((put_ne (by decide)).trans e25) ((put_ne (by decide)).trans e26) hb
    rintro e' w' (⟨rfl, hF⟩ | ⟨rfl, hx⟩)
    · exact ⟨_, rfl, go true w' (.inl ⟨rfl, by rw [hc]; exact hF⟩)⟩
    · exact ⟨_, rfl, go false w' (.inr ⟨rfl, hx⟩)⟩
  · have hw' : wants f e = false := by simpa using hw
    rw [hw'] at e18
    exact skip56 (u24 := u24) (u25 := u25) hli2 e4 e18 e26 (by rw [cntW_no he hw']; exact hj2)
end Go.Proofs.Ytamcbdflmephdaa.E

set_option linter.unusedSimpArgs false
set_option linter.unusedVariables false
set_option maxRecDepth 100000
set_option maxHeartbeats 2000000
namespace Go.Proofs.Ytamcbdflmephdaa.E
open Go
def mu56 (a : Act) (_ : World) : Nat := match a.tmps[4]? with
  | some (Value.int _ i) => (i + 1).toNat
  | _ => 0
theorem mu56_at {a : Act} {w : World} {i : Int} (h : a.tmps[4]? = some (.int .i64 i)) : mu56 a w = (i + 1).toNat := by unfold mu56; rw [h]
theorem noI : noDp ac_i56 = true := by kernel_rfl
theorem noH : noDp ac_h56 = true := by kernel_rfl
theorem noN : noDp ac_n56 = true := by kernel_rfl
theorem calmI : calmCode [0, 1, 2] (i56 (Try.f56.body.getD .skip)) = true := by kernel_rfl
theorem calmH : calmCode [0, 1, 2] (h56 (Try.f56.body.getD .skip)) = true := by kernel_rfl
theorem calmN : calmCode [0, 1, 2] (n56 (Try.f56.body.getD .skip)) = true := by kernel_rfl
theorem nt56 : Try.f56.ntmps = 27 := by kernel_rfl
theorem res56 : Try.f56.results = #[] := by kernel_rfl
theorem int_slot {O : Nat → Prop} {F0 F : Frz} {w0 w : World} {M : Hnd} {env : List DV} {mem : Mem} {a : Act} (hi : Inv O F0 w0 M F env mem a w) {j : Nat} {i : Int} (h : env[j]? = some (.int .i64 i)) : a.tmps[j]? = some (.int .i64 i) := by
  obtain ⟨v, e, q⟩ := slot_of hi h
  have := (RV_fz (d := .int .i64 i) rfl).1 q
  rw [RF] at this
  rw [e, this]
theorem iter56 (f : Flt) (es : List Ev) (hb : es.length ≤ 1000) : Iter Try.prog 56 [.pf [.sl 29 (es.map encEv)], .pf (encFl f)] (ysW f es) := by
  refine ⟨fun args w => enters_of Try.func56 (by kernel_rfl) rfl args w, ?_⟩
  intro F w vs hfwf hcaps l n J Jx hJg hJk hY h0
  rw [All2] at hcaps
  obtain ⟨v1, r, rfl, hv1, hr⟩ := hcaps
  rw [All2] at hr
  obtain ⟨v2, r2, rfl, hv2, hr2⟩ := hr
  rw [All2] at hr2
  subst hr2
  refine callsIn_of_wp Try.func56 body56 trivial ?_ rfl
  generalize ha : ({ tmps := (#[Value.func (.yield l) #[] #[]] ++ [v1, v2].toArray) ++ Array.replicate (Try.f56.ntmps - (#[Value.func (.yield l) #[] #[]] ++ [v1, v2].toArray).size) undef, defers := [] } : Act) = a0
  have hli : LI l v1 v2 a0 := by
    subst ha
    exact ⟨rfl, by simp [nt56], by simp [yldV], by simp, by simp⟩
  have h4 : a0.tmps[4]? = some undef := by
    subst ha
    simp [nt56]
  clear ha
  have post : ∀ a' w', LI l v1 v2 a' → ((∃ F', J (ysW f es).length F' w') ∨ Jx w') → a'.defers = [] ∧ ∃ v, (results Try.f56 a'.tmps).run Try.prog w' = .ok v w' ∧ ((∃ v', Ending.returned v = .returned v') ∧ ((∃ F', J (ysW f es).length F' w') ∨ Jx w')) :=
    fun a' w' hl hj => ⟨hl.d, _, results_none res56 _ _ _, ⟨_, rfl⟩, hj⟩
  refine wpIn_seq (piece (d := .any) noI tr_i56 calmI hli hfwf hv1 hv2 h4 rfl (by rw [RF]; trivial) (walkI f es hb) (fun d s h => by cases h.1) (fun e s h => h.2.1) ?_)
  rintro e e' s M1 F1 a1 w1 hee ⟨rfl, g0, g1⟩ hi1 hl1
  obtain ⟨rfl, -⟩ | ⟨id, -, h⟩ | ⟨-, h⟩ := hee
  rotate_left
  · cases h
  · cases h
  show (Code.block 0 _).wpIn _ _ _ _ _ _
  refine wpIn_block (wpIn_loop (fun a w' => ∃ (k : Nat) (F1 : Frz), k ≤ es.length ∧ LI l v1 v2 a ∧ a.tmps[4]? = some (.int .i64 ((k : Int) - 1)) ∧ J (cntW f es k) F1 w') mu56 ⟨es.length, F1, Nat.le_refl _, hl1, int_slot hi1 g1, by rw [cntW_end]; exact hJg _ _ _ _ _ h0 hi1.grow⟩ ?_)
  clear g0 g1 hi1 hl1 a1 w1
  rintro a1 w1 ⟨k, F1, hk, hl1, h41, hj1⟩
  obtain ⟨hkp, hf1⟩ := hJk _ _ _ hj1
  refine wpIn_seq (piece (d := .int .i64 ((k : Int) - 1)) noH tr_h56 calmH hl1 hf1 (RF.mono hkp _ _ hv1) (RF.mono hkp _ _ hv2) h41 rfl (by rw [RF]) (walkH f es k hk) (fun d s h => by rcases h.2.2 with ⟨h, _⟩ | ⟨h, _⟩ <;> cases h) (fun e s h => h.1) ?_)
  rintro e e' s M2 F2 a2 w2 hee ⟨g0, g1, g2⟩ hi2 hl2
  have hj2 := hJg _ _ _ _ _ hj1 hi2.grow
  rcases g2 with ⟨rfl, hk0⟩ | ⟨rfl, rfl⟩
  rotate_left
  · obtain ⟨-, h⟩ | ⟨id, rfl, h⟩ | ⟨-, h⟩ := hee
    · cases h
    · cases h
      exact post _ _ hl2 (.inl ⟨F2, by rw [← cntW_all]; exact hj2⟩)
    · cases h
  obtain ⟨rfl, -⟩ | ⟨id, -, h⟩ | ⟨-, h⟩ := hee
  rotate_left
  · cases h
  · cases h
  obtain ⟨k, rfl⟩ : ∃ k', k = k' + 1 := ⟨k - 1, by omega⟩
  have h42 : a2.tmps[4]? = some (.int .i64 (k : Int)) := by
    rw [int_slot hi2 g1]
    congr 2
    omega
  obtain ⟨hkp2, hf2⟩ := hJk _ _ _ hj2
  obtain ⟨e, he⟩ : ∃ e, es[k]? = some e := ⟨es[k]'(by omega), List.getElem?_eq_getElem _⟩
  show (Code.seq _ _).wpIn _ _ _ _ _ _
  refine wpIn_seq (wpIn_block (wpIn_seq (wpIn_mono (round56 hb he hJg hY hl2 hf2 (RF.mono hkp2 _ _ hv1) (RF.mono hkp2 _ _ hv2) h42 hj2) ?_)))
  rintro e3 a3 w3 ⟨rfl, hl3, h43, h26⟩
  show (Code.cond _ _ _).wpIn _ _ _ _ _ _
  rcases h26 with ⟨h26, hx⟩ | ⟨h26, F3, hj3⟩
  · exact wpIn_cond_true (ev_tmp h26) (wpIn_ret (post _ _ hl3 (.inr hx)))
  · refine wpIn_cond_false (ev_tmp h26) (wpIn_skip ?_)
    obtain ⟨hkp3, hf3⟩ := hJk _ _ _ hj3
    show (n56 _).wpIn _ _ _ _ _ _
    refine piece (d := .int .i64 (k : Int)) noN tr_n56 calmN hl3 hf3 (RF.mono hkp3 _ _ hv1) (RF.mono hkp3 _ _ hv2) h43 rfl (by rw [RF]) (walkN f es k (by omega)) (fun d s h => by cases h.1) (fun e s h => h.2.1) ?_
    rintro e e' s M4 F4 a4 w4 hee ⟨rfl, g0, g1⟩ hi4 hl4
    obtain ⟨rfl, -⟩ | ⟨id, -, h⟩ | ⟨-, h⟩ := hee
    rotate_left
    · cases h
    · cases h
    have h44 := int_slot hi4 g1
    refine ⟨⟨k, F4, by omega, hl4, h44, hJg _ _ _ _ _ hj3 hi4.grow⟩, ?_⟩
    rw [mu56_at h44, mu56_at h41]
    omega
end Go.Proofs.Ytamcbdflmephdaa.E
