/-
  The law's function that writes into the list that it was given as its own.
-/
import Derived.Test.YthackanfbemabaaRcC
import Derived.Test.YthackanfbemabaaRg
import Derived.Tactics
import Derived.TacticsIn
import Derived.OrdersIn
set_option linter.unusedVariables false
set_option linter.unusedSimpArgs false
set_option linter.unusedSimpArgs false
set_option linter.unusedVariables false
set_option maxRecDepth 100000
set_option maxHeartbeats 2000000
namespace Go.Proofs.Ythackanfbemabaa.E
open Go
theorem ops_step {F : Fence} {n : Nat} {P : Program} {ops : Array Oper} {Q : Exit → Act → World → Prop} {i : Nat} {rest : List Nat} {a : Act} {w : World} {o : Oper} (ho : ops[i]? = some o) (hg : o.guard = none) (h : o.wpIn F n P a w (wpOpsIn F n P ops Q rest) Q) : wpOpsIn F n P ops Q (i :: rest) a w := by
  unfold wpOpsIn
  simp only [ho]
  rw [if_pos (by simp [Region.wanted, hg])]
  exact h
theorem ev_tmp {a : Act} {t : Nat} {v : Value} (h : a.tmps[t]? = some v) : a.eval (.tmp t) = v := by simp [Act.eval, h]
theorem put_same {a : Act} {t : Nat} {u v : Value} (h : a.tmps[t]? = some u) : (a.put (some t) v).tmps[t]? = some v := by
  have := (Array.getElem?_eq_some_iff.1 h).1
  simp [Act.put, Array.getElem?_setIfInBounds_self, this]
theorem put_ne {a : Act} {t t' : Nat} {v : Value} (h : t ≠ t') : (a.put (some t) v).tmps[t']? = a.tmps[t']? := by
  simp [Act.put, Array.getElem?_setIfInBounds_ne h]
theorem slot_of {O : Nat → Prop} {F0 F : Frz} {w0 w : World} {M : Hnd} {env : List DV} {mem : Mem} {a : Act} (hi : Inv O F0 w0 M F env mem a w) {i : Nat} {d : DV} (h : env[i]? = some d) : ∃ v, a.tmps[i]? = some v ∧ RV M F w d v := by
  obtain ⟨v, e, r⟩ := hi.ev.get i d h
  exact ⟨v, by simpa using e, r⟩
theorem VecOK.mono {F : Frz} {w : World} {N N' : Nat → Prop} {e sz : Nat} {xs : List (List DV)} {v : Value} (h : VecOK F w N e sz xs v) (hN : ∀ b, hblk v = some b → N b → N' b) : VecOK F w N' e sz xs v := by
  refine ⟨h.1, ?_⟩
  rcases h.2 with h2 | ⟨g, cap, cur, rfl, hc, h3, h4⟩
  · exact .inl h2
  · exact .inr ⟨g, cap, cur, rfl, hc, hN g (by simp only [hblk, if_neg (Nat.pos_iff_ne_zero.1 hc)]) h3, h4⟩
theorem VecOK.one {F : Frz} {w : World} {N : Nat → Prop} {e sz : Nat} {xs : List (List DV)} {v : Value} (h : VecOK F w N e sz xs v) : v.oneCell' = true := by
  rcases h.2 with ⟨_, A, rfl⟩ | ⟨g, cap, cur, rfl, _⟩ <;> rfl
theorem bodyO15 : Try.f15.body = some (Try.f15.body.getD .skip) := by kernel_rfl
theorem noO15 : noDp acO15 = true := by kernel_rfl
theorem calmO15 : calmCode [] (Try.f15.body.getD .skip) = true := by kernel_rfl
theorem nt15 : Try.f15.ntmps = 24 := by kernel_rfl
theorem res15 : Try.f15.results = #[.tmp 2, .tmp 3] := by kernel_rfl
/-- the rooms are in new memory -/
theorem of15 {F : Frz} {w : World} {v : Value} {es : List Ev} (hf : ∀ b o, F b o → b < w.heap.size) (hb : ∀ e ∈ es, e.allow.length ≤ 1000) (hv : RF F w (.sl 29 (es.map encEv)) v) :
    Calls Try.prog 15 #[v] w fun e w' => ∃ u F', e = .returned (.tuple #[.int .i64 (rulesL es).1, u]) ∧ Grow (fun _ => False) F w F' w' ∧ VecOK F' w' (fun b => w.heap.size ≤ b) 9 1 ((rulesL es).2.map encS) u := by
  refine (callsIn_wide (n := 1)).1 (callsIn_of_wp Try.func15 bodyO15 trivial ?_ rfl)
  generalize ha : ({ tmps := #[v] ++ Array.replicate (Try.f15.ntmps - (#[v] : Array Value).size) undef, defers := [] } : Act) = a0
  have h0 : a0.tmps[0]? = some v := by subst ha; simp
  have hd : a0.defers = [] := by subst ha; rfl
  have hs : a0.tmps.size = 24 := by subst ha; simp [nt15]
  clear ha
  have hl : less [] a0 = a0 := by rw [← hd]; rfl
  have hi : Inv (fun _ => False) F w (fun _ => none) F ([.sl 29 (es.map encEv)] ++ List.replicate 23 .any) [] (less [] a0) w := by
    rw [hl]
    refine ⟨hd, ?_, fun k blk hk => by simp [mget] at hk, fun k k' blk blk' v v' b hk => by simp [mget] at hk, ⟨fun _ _ h => h, fun _ _ h => .inl h, hf, Nat.le_refl _, fun _ _ _ => rfl, rfl, rfl, rfl⟩⟩
    refine All2.of_get (by simp [hs]) fun i d' u hi hu => ?_
    have hu : a0.tmps[i]? = some u := by simpa using hu
    cases i with
    | zero => rw [h0] at hu; cases hu; cases hi; exact RV_of_RF hv
    | succ i =>
      have : d' = .any := by
        have e : ([DV.sl 29 (es.map encEv)] ++ List.replicate 23 DV.any)[i + 1]? = (List.replicate 23 DV.any)[i]? := rfl
        rw [e, List.getElem?_replicate] at hi
        split at hi
        · cases hi; rfl
        · cases hi
      subst this
      exact RV_RVc RVc_any
  show (Try.f15.body.getD .skip).wpIn (Gf none) 1 Try.prog _ a0 w
  refine wpIn_mono (dwpX_sound (ro := none) (n := 1) (J := []) (t0 := a0.tmps) (ds := []) acO15 noO15 trO15 calmO15 (pre := []) hd (fun j hj => rfl) (s := ⟨[.sl 29 (es.map encEv)] ++ List.replicate 23 .any, []⟩) hi (walk15 es hb)) fun e a' w' hq => ?_
  cases e with
  | ret =>
    obtain ⟨pre, hd', hv', s', M', F', hi', -, g0, g1, g2⟩ := hq
    have : less pre a' = a' := by
      rw [List.append_nil] at hd'
      rw [← hd']; rfl
    rw [this] at hi'
    obtain ⟨v2, e2, q2⟩ := slot_of hi' g1
    have q2 := (RV_fz (d := .int .i64 (rulesL es).1) rfl).1 q2
    rw [RF] at q2
    subst q2
    have hg2 : a'.tmps.getD 2 undef = .int .i64 (rulesL es).1 := by simp [Array.getD_eq_getD_getElem?, e2]
    have key : ∃ u, a'.tmps[3]? = some u ∧ VecOK F' w' (fun b => w.heap.size ≤ b) 9 1 ((rulesL es).2.map encS) u := by
      rcases g2 with ⟨g3, g4⟩ | ⟨g3, g4⟩
      · obtain ⟨v3, e3, q3⟩ := slot_of hi' g3
        have q3 := (RV_fz (d := .e0) rfl).1 q3
        rw [RF] at q3
        obtain ⟨A, rfl⟩ := q3
        exact ⟨_, e3, by rw [g4]; simp, .inl ⟨by rw [g4]; rfl, A, rfl⟩⟩
      · obtain ⟨v3, e3, q3, _⟩ := slot_of hi' g3
        obtain ⟨v4, q4, q5⟩ := hi'.mm 22 _ g4
        rw [q3] at q4
        cases q4
        exact ⟨_, e3, q5.mono fun b _ h => h.resolve_right id⟩
    obtain ⟨u, e3, hu⟩ := key
    have hg3 : a'.tmps.getD 3 undef = u := by simp [Array.getD_eq_getD_getElem?, e3]
    refine ⟨hi'.dl, _, results_tmp2 res15 _ _ _, u, F', by rw [hg2, hg3], hi'.grow, hu⟩
  | normal => obtain ⟨_, _, _, _, _, _, _, h, _⟩ := hq; cases h
  | exit id => obtain ⟨_, _, _, _, _, _, _, h, _⟩ := hq; cases h
  | panic ch => obtain ⟨_, _, _, _, _, _, _, _, _, _, _, h, _⟩ := hq; cases h
  | _ => obtain ⟨_, _, _, h⟩ := hq; exact h.elim
end Go.Proofs.Ythackanfbemabaa.E

set_option linter.unusedSimpArgs false
set_option linter.unusedVariables false
set_option maxRecDepth 100000
set_option maxHeartbeats 2000000
namespace Go.Proofs.Ythackanfbemabaa.E
open Go
def oR0 (b : Code) : Oper := ⟨some 31, .move (.tmp 0), 22, ((rgO (pR1 b)).getD 0 default).pos, ((rgO (pR1 b)).getD 0 default).after, none⟩
theorem eR0 : (rgO (pR1 (Try.f3.body.getD .skip)))[0]? = some (oR0 (Try.f3.body.getD .skip)) := by kernel_rfl
def oR1 (b : Code) : Oper := ⟨some 32, .call { callee := .value (.func 15), args := #[.tmp 31], argTypes := #[22] }, 37, ((rgO (pR1 b)).getD 1 default).pos, ((rgO (pR1 b)).getD 1 default).after, none⟩
theorem eR1 : (rgO (pR1 (Try.f3.body.getD .skip)))[1]? = some (oR1 (Try.f3.body.getD .skip)) := by kernel_rfl
def oR2 (b : Code) : Oper := ⟨some 30, .move (.tmp 32), 37, ((rgO (pR1 b)).getD 2 default).pos, ((rgO (pR1 b)).getD 2 default).after, none⟩
theorem eR2 : (rgO (pR1 (Try.f3.body.getD .skip)))[2]? = some (oR2 (Try.f3.body.getD .skip)) := by kernel_rfl
def oR3 (b : Code) : Oper := ⟨some 33, .extract (.tmp 30) 0, 3, ((rgO (pR1 b)).getD 3 default).pos, ((rgO (pR1 b)).getD 3 default).after, none⟩
theorem eR3 : (rgO (pR1 (Try.f3.body.getD .skip)))[3]? = some (oR3 (Try.f3.body.getD .skip)) := by kernel_rfl
def oR4 (b : Code) : Oper := ⟨some 34, .extract (.tmp 30) 1, 24, ((rgO (pR1 b)).getD 4 default).pos, ((rgO (pR1 b)).getD 4 default).after, none⟩
theorem eR4 : (rgO (pR1 (Try.f3.body.getD .skip)))[4]? = some (oR4 (Try.f3.body.getD .skip)) := by kernel_rfl
def oR5 (b : Code) : Oper := ⟨some 4, .assign (.tmp 33), 3, ((rgO (pR1 b)).getD 5 default).pos, ((rgO (pR1 b)).getD 5 default).after, none⟩
theorem eR5 : (rgO (pR1 (Try.f3.body.getD .skip)))[5]? = some (oR5 (Try.f3.body.getD .skip)) := by kernel_rfl
def oR6 (b : Code) : Oper := ⟨some 5, .assign (.tmp 34), 24, ((rgO (pR1 b)).getD 6 default).pos, ((rgO (pR1 b)).getD 6 default).after, none⟩
theorem eR6 : (rgO (pR1 (Try.f3.body.getD .skip)))[6]? = some (oR6 (Try.f3.body.getD .skip)) := by kernel_rfl
theorem R1_eq : pR1 (Try.f3.body.getD .skip) = .region 8 (rgO (pR1 (Try.f3.body.getD .skip))) false := by kernel_rfl
theorem sR1 : (rgO (pR1 (Try.f3.body.getD .skip))).size = 7 := by kernel_rfl
theorem callable15 : callable Try.prog 15 = true := by kernel_rfl
theorem get_pre {l : List DV} {n i : Nat} {d : DV} (h : (l ++ List.replicate n DV.any)[i]? = some d) : (i < l.length ∧ l[i]? = some d) ∨ d = .any := by
  by_cases hi : i < l.length
  · rw [List.getElem?_append_left hi] at h
    exact .inl ⟨hi, h⟩
  · rw [List.getElem?_append_right (by omega), List.getElem?_replicate] at h
    split at h
    · exact .inr (Option.some.inj h).symm
    · cases h
section
variable {O : Nat → Prop} {F0 F F' : Frz} {w0 w w' : World} {M : Hnd} {env : List DV} {mem mem' : Mem} {a a' : Act} {n : Nat} {es : List Ev}
theorem inv_size (hi : Inv O F0 w0 M F env mem a w) : a.tmps.size = env.length := by
  have := hi.ev.length
  simpa using this
theorem inv_sub {E' : List DV} (hi : Inv O F0 w0 M F env mem a w) (hl : E'.length = env.length) (hE : ∀ (i : Nat) (d : DV), E'[i]? = some d → d = .any ∨ env[i]? = some d) (hm : ∀ k b, mget mem' k = some b → mget mem k = some b) : Inv O F0 w0 M F E' mem' a w := by
  refine ⟨hi.dl, ?_, fun k b h => hi.mm k b (hm k b h), fun k k' b b' v v' x h1 h2 => hi.dis k k' b b' v v' x (hm _ _ h1) (hm _ _ h2), hi.grow⟩
  refine All2.of_get (by rw [hl]; exact hi.ev.length) fun i d v h1 h2 => ?_
  rcases hE i d h1 with rfl | h
  · exact RV_RVc RVc_any
  · obtain ⟨v', e, r⟩ := hi.ev.get i d h
    rw [h2] at e
    cases e
    exact r
theorem call15 {v : Value} (hf : ∀ b o, F b o → b < w.heap.size) (hb : ∀ e ∈ es, e.allow.length ≤ 1000) (hx : a.eval (.tmp 31) = v) (hv : RF F w (.sl 29 (es.map encEv)) v) {K : Act → World → Prop} {Q : Exit → Act → World → Prop}
    (hK : ∀ F' w' u, Grow (fun _ => False) F w F' w' → VecOK F' w' (fun b => w.heap.size ≤ b) 9 1 ((rulesL es).2.map encS) u → K (a.put (some 32) (.tuple #[.int .i64 (rulesL es).1, u])) w') : (oR1 (Try.f3.body.getD .skip)).wp Try.prog a w K Q := by
  unfold Oper.wp
  rw [run_call (o := oR1 (Try.f3.body.getD .skip)) rfl rfl callable15]
  have : (#[Operand.tmp 31].map a.eval ++ #[] : Array Value) = #[v] := by simp [hx]
  rw [this]
  refine Calls.mono (of15 hf hb hv) ?_
  rintro e w' ⟨u, F', rfl, hg, hx'⟩
  exact hK F' w' u hg hx'
theorem reg1 {R : Exit → Act → World → Prop} (hi : Inv O F0 w0 M F (E0 es) [] a w) (hb : ∀ e ∈ es, e.allow.length ≤ 1000) (hR : ∀ a' w' M' F', Inv O F0 w0 M' F' (E1 es) (mV es) a' w' → R .normal a' w') : (pR1 (Try.f3.body.getD .skip)).wpIn Fence.wide n Try.prog R a w := by
  obtain ⟨v0, e0, q0⟩ := slot_of hi (i := 0) (d := .sl 29 (es.map encEv)) rfl
  have q0 := (RV_fz (d := .sl 29 (es.map encEv)) rfl).1 q0
  have hs : a.tmps.size = 74 := inv_size hi
  have hd : a.defers = [] := hi.dl
  rw [R1_eq]
  refine wpIn_region ?_
  rw [sR1]
  show wpOpsIn (Gf none) n Try.prog _ R [0, 1, 2, 3, 4, 5, 6] a w
  refine ops_step eR0 rfl (opIn_val (o := oR0 (Try.f3.body.getD .skip)) (v := v0) (w' := w) (fun c h => by cases h) (by simp [oR0, oR1, oR2, oR3, oR4, oR5, oR6, execOp, Instr.extract, ev_tmp e0] <;> rfl) ?_)
  have e31 : (a.put (some 31) v0).tmps[31]? = some v0 := put_same (Array.getElem?_eq_getElem (show 31 < a.tmps.size by omega))
  have hs1 : (a.put (some 31) v0).tmps.size = 74 := by simp [Act.put, hs]
  refine ops_step eR1 rfl (Oper.wpIn_mono (fun a2 w2 hf => ?_) (opIn_of_wp (J := []) (pre := []) (t0 := (a.put (some 31) v0).tmps) (ds := []) (o := oR1 (Try.f3.body.getD .skip)) (K := fun a2 w2 => ∃ u F', a2.tmps = ((a.put (some 31) v0).put (some 32) (.tuple #[.int .i64 (rulesL es).1, u])).tmps ∧ a2.defers = [] ∧ Grow (fun _ => False) F w F' w2 ∧ VecOK F' w2 (fun b => w.heap.size ≤ b) 9 1 ((rulesL es).2.map encS) u) rfl hd (fun j hj => by simp at hj)
    (call15 (a := less [] (a.put (some 31) v0)) hi.grow.fwf hb (ev_tmp e31) q0 fun F' w' u hg hx => ⟨u, F', rfl, rfl, hg, hx⟩)))
  obtain ⟨pre, hd2, _, u, F', ht, hp, hg, hx⟩ := hf
  have hd2 : a2.defers = [] := by rw [hd2, List.append_nil]; exact hp
  have ht : a2.tmps = ((a.put (some 31) v0).put (some 32) (.tuple #[.int .i64 (rulesL es).1, u])).tmps := ht
  have hs2 : a2.tmps.size = 74 := by rw [ht]; simp [Act.put, hs]
  have e32 : a2.tmps[32]? = some (.tuple #[.int .i64 (rulesL es).1, u]) := by
    rw [ht]
    exact put_same (Array.getElem?_eq_getElem (show 32 < (a.put (some 31) v0).tmps.size by omega))
  have f0 : a2.tmps[0]? = some v0 := by
    rw [ht]
    exact (put_ne (by decide)).trans ((put_ne (by decide)).trans e0)
  have any : ∀ i, i < 74 → ∃ x, a2.tmps[i]? = some x := fun i hi => ⟨_, Array.getElem?_eq_getElem (show i < a2.tmps.size by omega)⟩
  clear ht
  refine ops_step eR2 rfl (opIn_val (o := oR2 (Try.f3.body.getD .skip)) (v := .tuple #[.int .i64 (rulesL es).1, u]) (w' := w2) (fun c h => by cases h) (by simp [oR0, oR1, oR2, oR3, oR4, oR5, oR6, execOp, Instr.extract, ev_tmp e32] <;> rfl) ?_)
  obtain ⟨x30, h30⟩ := any 30 (by decide)
  obtain ⟨x33, h33⟩ := any 33 (by decide)
  obtain ⟨x34, h34⟩ := any 34 (by decide)
  obtain ⟨x4, h4⟩ := any 4 (by decide)
  obtain ⟨x5, h5⟩ := any 5 (by decide)
  have e30 := put_same (v := .tuple #[.int .i64 (rulesL es).1, u]) h30
  refine ops_step eR3 rfl (opIn_val (o := oR3 (Try.f3.body.getD .skip)) (v := .int .i64 (rulesL es).1) (w' := w2) (fun c h => by cases h) (by simp [oR0, oR1, oR2, oR3, oR4, oR5, oR6, execOp, Instr.extract, ev_tmp e30] <;> rfl) ?_)
  have e33 := put_same (v := .int .i64 (rulesL es).1) ((put_ne (a := a2) (t := 30) (t' := 33) (v := .tuple #[.int .i64 (rulesL es).1, u]) (by decide)).trans h33)
  have e30' := (put_ne (t := 33) (t' := 30) (v := .int .i64 (rulesL es).1) (by decide)).trans e30
  have g34 := (put_ne (t := 33) (t' := 34) (v := .int .i64 (rulesL es).1) (by decide)).trans ((put_ne (a := a2) (t := 30) (t' := 34) (v := .tuple #[.int .i64 (rulesL es).1, u]) (by decide)).trans h34)
  have g4 := (put_ne (t := 33) (t' := 4) (v := .int .i64 (rulesL es).1) (by decide)).trans ((put_ne (a := a2) (t := 30) (t' := 4) (v := .tuple #[.int .i64 (rulesL es).1, u]) (by decide)).trans h4)
  have g5 := (put_ne (t := 33) (t' := 5) (v := .int .i64 (rulesL es).1) (by decide)).trans ((put_ne (a := a2) (t := 30) (t' := 5) (v := .tuple #[.int .i64 (rulesL es).1, u]) (by decide)).trans h5)
  have g0 := (put_ne (t := 33) (t' := 0) (v := .int .i64 (rulesL es).1) (by decide)).trans ((put_ne (a := a2) (t := 30) (t' := 0) (v := .tuple #[.int .i64 (rulesL es).1, u]) (by decide)).trans f0)
  have hs3 : (((a2.put (some 30) (.tuple #[.int .i64 (rulesL es).1, u])).put (some 33) (.int .i64 (rulesL es).1))).tmps.size = 74 := by simp [Act.put, hs2]
  have hd3 : (((a2.put (some 30) (.tuple #[.int .i64 (rulesL es).1, u])).put (some 33) (.int .i64 (rulesL es).1))).defers = [] := hd2
  show wpOpsIn (Gf none) n Try.prog _ R [4, 5, 6] ((a2.put (some 30) (.tuple #[.int .i64 (rulesL es).1, u])).put (some 33) (.int .i64 (rulesL es).1)) w2
  generalize (a2.put (some 30) (.tuple #[.int .i64 (rulesL es).1, u])).put (some 33) (.int .i64 (rulesL es).1) = a3 at *
  refine ops_step eR4 rfl (opIn_val (o := oR4 (Try.f3.body.getD .skip)) (v := u) (w' := w2) (fun c h => by cases h) (by simp [oR0, oR1, oR2, oR3, oR4, oR5, oR6, execOp, Instr.extract, ev_tmp e30'] <;> rfl) ?_)
  have e34 := put_same (v := u) g34
  have e33' := (put_ne (t := 34) (t' := 33) (v := u) (by decide)).trans e33
  refine ops_step eR5 rfl (opIn_val (o := oR5 (Try.f3.body.getD .skip)) (v := .int .i64 (rulesL es).1) (w' := w2) (fun c h => by cases h) (by simp [oR0, oR1, oR2, oR3, oR4, oR5, oR6, execOp, Instr.extract, ev_tmp e33'] <;> rfl) ?_)
  have e34' := (put_ne (t := 4) (t' := 34) (v := .int .i64 (rulesL es).1) (by decide)).trans e34
  refine ops_step eR6 rfl (opIn_val (o := oR6 (Try.f3.body.getD .skip)) (v := u) (w' := w2) (fun c h => by cases h) (by simp [oR0, oR1, oR2, oR3, oR4, oR5, oR6, execOp, Instr.extract, ev_tmp e34'] <;> rfl) ?_)
  refine hR _ _ (fun k => if k = 34 then some u else none) F' ?_
  have hc := hi.calm hg
  have hkp := hg.keeps hi.grow.fwf (fun _ _ _ h => h)
  refine ⟨hd3, ?_, fun k blk hk => ?_, fun k k' blk blk' v v' b hk hk' _ _ _ _ => ?_, hc.grow⟩
  · refine All2.of_get (by simp [E1, oR4, oR5, oR6, Act.put, hs3]) fun i d v h1 h2 => ?_
    have h2 : (((a3.put (some 34) u).put (some 4) (.int .i64 (rulesL es).1)).put (some 5) u).tmps[i]? = some v := by simpa [oR4, oR5, oR6] using h2
    rcases get_pre h1 with ⟨hi', h⟩ | rfl
    · match i, hi' with
      | 0, _ =>
        rw [put_ne (by decide), put_ne (by decide), put_ne (by decide), g0] at h2
        cases h2
        cases h
        exact RV_of_RF (RF.mono hkp _ _ q0)
      | 1, _ => cases h; exact RV_RVc RVc_any
      | 2, _ => cases h; exact RV_RVc RVc_any
      | 3, _ => cases h; exact RV_RVc RVc_any
      | 4, _ =>
        rw [put_ne (by decide), put_same ((put_ne (by decide)).trans g4)] at h2
        cases h2
        cases h
        exact RV_of_RF (by rw [RF])
      | 5, _ =>
        rw [put_same ((put_ne (by decide)).trans ((put_ne (by decide)).trans g5))] at h2
        cases h2
        cases h
        exact ⟨rfl, hx.one⟩
    · exact RV_RVc RVc_any
  · simp only [mV, mget] at hk
    split at hk
    · rename_i h
      subst h
      cases hk
      exact ⟨u, rfl, hx.mono fun b _ h => .inl (Nat.le_trans hi.grow.size h)⟩
    · cases hk
  · simp only [mV, mget] at hk hk'
    split at hk
    · split at hk'
      · omega
      · cases hk'
    · cases hk
end
end Go.Proofs.Ythackanfbemabaa.E

set_option linter.unusedSimpArgs false
set_option linter.unusedVariables false
set_option maxRecDepth 100000
set_option maxHeartbeats 2000000
namespace Go.Proofs.Ythackanfbemabaa.E
open Go
section
variable {O : Nat → Prop} {F0 F F' : Frz} {w0 w w' : World} {M : Hnd} {env : List DV} {mem mem' : Mem} {a a' : Act} {n : Nat} {es : List Ev}
theorem less_nil {a : Act} (h : a.defers = []) : less [] a = a := by
  rw [← h]
  rfl
/-- a part that the engine walks -/
theorem part {c : Code} {ac : AC} {s : DS} {K : DS → Prop} {R : Exit → Act → World → Prop} (hn : noDp ac = true) (ht : trCodeF Try.prog [] c = some (strip ac)) (hc : calmCode [] c = true) (hi : Inv O F0 w0 M F s.env s.mem a w) (hK : dwp Try.prog ac s (QA K))
    (h1 : ∀ s' M' F' a' w', Inv O F0 w0 M' F' s'.env s'.mem a' w' → K s' → R .normal a' w') (h2 : ∀ s' M' F' a' w', Inv O F0 w0 M' F' s'.env s'.mem a' w' → kRet [(.t 2)] (.fz (.bool true)) s' → R .ret a' w') : c.wpIn Fence.wide n Try.prog R a w := by
  show c.wpIn (Gf none) n Try.prog R a w
  refine wpIn_mono (dwpX_sound (ro := none) (n := n) (J := []) (t0 := a.tmps) (ds := []) ac hn ht hc (pre := []) hi.dl (fun j hj => rfl) (by rw [less_nil hi.dl]; exact hi) hK) fun e a' w' hq => ?_
  have fin : ∀ K' : DS → Prop, Fr [] a.tmps [] (Gd O F0 w0 K') a' w' → ∃ s' M' F', Inv O F0 w0 M' F' s'.env s'.mem a' w' ∧ K' s' := by
    rintro K' ⟨pre, hd', _, s', M', F', hi', hk'⟩
    have : less pre a' = a' := by
      rw [List.append_nil] at hd'
      rw [← hd']; rfl
    rw [this] at hi'
    exact ⟨s', M', F', hi', hk'⟩
  cases e with
  | normal => obtain ⟨s', M', F', g1, g2⟩ := fin _ hq; exact h1 s' M' F' a' w' g1 g2
  | ret => obtain ⟨s', M', F', g1, g2⟩ := fin _ hq; exact h2 s' M' F' a' w' g1 g2
  | exit id => obtain ⟨_, _, _, _, _, _, _, h⟩ := hq; exact h.elim
  | panic ch => obtain ⟨_, _, _, _, _, _, _, _, _, _, _, h⟩ := hq; exact h.elim
  | _ => obtain ⟨_, _, _, h⟩ := hq; exact h.elim
theorem blkFz_rooms (l : List (List UInt8)) : blkFz (.vec 9 1 (l.map encS)) = true := by
  simp [blkFz, encS, isFz]
/-- a part that reads what is the activation's own, and leaves it so -/
theorem lend {R : Exit → Act → World → Prop} (hi : Inv O F0 w0 M F (E2 es) (mV es) a w) (h1 : ∀ M' F' a' w', Inv O F0 w0 M' F' (E2 es) (mV es) a' w' → R .normal a' w') : (pD (Try.f3.body.getD .skip)).wpIn Fence.wide n Try.prog R a w := by
  obtain ⟨s1, F1, hi1, hk1, rfl⟩ := frzK_ok (s := ⟨E2 es, mV es⟩) hi (k := 34) (KK := fun s => s = ⟨E2f es, []⟩) (by
    show blkK (mget (mV es) 34) _
    exact ⟨blkFz_rooms _, rfl⟩)
  have hi1r := hi1.rebase
  show (pD (Try.f3.body.getD .skip)).wpIn (Gf none) n Try.prog R a w
  refine wpIn_mono (dwpX_sound (ro := none) (n := n) (J := [0, 4, 5, 6, 7]) (t0 := a.tmps) (ds := []) ac_pD no_pD tr_pD ca_pD (pre := []) hi.dl (fun j hj => rfl) (s := ⟨E2f es, []⟩) (by rw [less_nil hi.dl]; exact hi1r) (walkD es)) fun e a' w' hq => ?_
  cases e with
  | normal =>
    obtain ⟨pre, hd', hv, s', M', F', hi', hk'⟩ := hq
    have : less pre a' = a' := by
      rw [List.append_nil] at hd'
      rw [← hd']; rfl
    rw [this] at hi'
    have hno : ∀ b, ¬ Own M [] b := by
      rintro b ⟨k, blk, v, h, _⟩
      simp [mget] at h
    have hg : Grow (fun _ => False) F w F w' := ⟨fun _ _ h => h, fun _ _ h => .inl h, fun b o h => Nat.lt_of_lt_of_le (hi.grow.fwf b o h) hi'.grow.size, hi'.grow.size, fun b hb _ => hi'.grow.block b hb (hno b), hi'.grow.os, hi'.grow.tape, hi'.grow.output⟩
    have hc := hi.calm hg
    refine h1 M F a' w' ⟨hi'.dl, ?_, hc.mm, hc.dis, hc.grow⟩
    have hsz : a'.tmps.size = 74 := (inv_size hi').trans hk'
    refine All2.of_get (by simp [E2, hsz]) fun i d v e1 e2 => ?_
    have e2 : a'.tmps[i]? = some v := by simpa using e2
    have old : i ∈ [0, 4, 5, 6, 7] → RV M F w' d v := fun hm => by
      rw [hv i hm] at e2
      obtain ⟨v', e3, r⟩ := slot_of hc e1
      rw [e2] at e3
      cases e3
      exact r
    rcases get_pre e1 with ⟨hi'', h⟩ | rfl
    · match i, hi'' with
      | 0, _ => exact old (by decide)
      | 1, _ => cases h; exact RV_RVc RVc_any
      | 2, _ => cases h; exact RV_RVc RVc_any
      | 3, _ => cases h; exact RV_RVc RVc_any
      | 4, _ => exact old (by decide)
      | 5, _ => exact old (by decide)
      | 6, _ => exact old (by decide)
      | 7, _ => exact old (by decide)
    · exact RV_RVc RVc_any
  | ret => obtain ⟨_, _, _, _, _, _, _, h⟩ := hq; exact h.elim
  | exit id => obtain ⟨_, _, _, _, _, _, _, h⟩ := hq; exact h.elim
  | panic ch => obtain ⟨_, _, _, _, _, _, _, _, _, _, _, h⟩ := hq; exact h.elim
  | _ => obtain ⟨_, _, _, h⟩ := hq; exact h.elim
end
end Go.Proofs.Ythackanfbemabaa.E

set_option linter.unusedSimpArgs false
set_option linter.unusedVariables false
set_option maxRecDepth 100000
set_option maxHeartbeats 2000000
namespace Go.Proofs.Ythackanfbemabaa.E
open Go
section
variable {O : Nat → Prop} {F0 F F' : Frz} {w0 w w' : World} {M : Hnd} {env : List DV} {mem mem' : Mem} {a a' : Act} {n : Nat} {es : List Ev} {s : DS}
theorem mget_nil {k : Nat} {b : Blk} {P : Prop} (h : mget [] k = some b) : P := by simp [mget] at h
theorem toE0 (hi : Inv O F0 w0 M F s.env s.mem a w) (h1 : s.env.length = 74) (h2 : s.env[0]? = some (.sl 29 (es.map encEv))) : Inv O F0 w0 M F (E0 es) [] a w := by
  refine inv_sub hi (by rw [h1]; simp [E0]) (fun i d h => ?_) (fun k b h => mget_nil h)
  rcases get_pre h with ⟨hi', h⟩ | rfl
  · match i, hi' with
    | 0, _ => cases h; exact .inr h2
  · exact .inl rfl
theorem toE2 (hi : Inv O F0 w0 M F s.env s.mem a w) (h : K2 es s) : Inv O F0 w0 M F (E2 es) (mV es) a w := by
  obtain ⟨h1, h2, h3, h4, h5, h6, h7⟩ := h
  refine inv_sub hi (by rw [h1]; simp [E2]) (fun i d h => ?_) (fun k b h => ?_)
  · rcases get_pre h with ⟨hi', h⟩ | rfl
    · match i, hi' with
      | 0, _ => cases h; exact .inr h2
      | 1, _ => cases h; exact .inl rfl
      | 2, _ => cases h; exact .inl rfl
      | 3, _ => cases h; exact .inl rfl
      | 4, _ => cases h; exact .inr h3
      | 5, _ => cases h; exact .inr h4
      | 6, _ => cases h; exact .inr h5
      | 7, _ => cases h; exact .inr h6
    · exact .inl rfl
  · simp only [mV, mget] at h
    split at h
    · rename_i hk
      subst hk
      cases h
      exact h7
    · cases h
theorem toE3 (hi : Inv O F0 w0 M F s.env s.mem a w) (h : K3 es s) : Inv O F0 w0 M F (E3 es) [] a w := by
  obtain ⟨h1, h2, h3, h4⟩ := h
  refine inv_sub hi (by rw [h1]; simp [E3]) (fun i d h => ?_) (fun k b h => mget_nil h)
  rcases get_pre h with ⟨hi', h⟩ | rfl
  · match i, hi' with
    | 0, _ => cases h; exact .inr h2
    | 1, _ => cases h; exact .inl rfl
    | 2, _ => cases h; exact .inl rfl
    | 3, _ => cases h; exact .inl rfl
    | 4, _ => cases h; exact .inl rfl
    | 5, _ => cases h; exact .inl rfl
    | 6, _ => cases h; exact .inr h3
    | 7, _ => cases h; exact .inr h4
  · exact .inl rfl
end
theorem tr3r : trRes Try.prog Try.f3.results.toList = some [(.t 2)] := by kernel_rfl
theorem spec3 (es : List Ev) : Spec Try.prog 3 [.fz (.sl 29 (es.map encEv))] (.fz (.bool true)) := by
  refine ⟨by kernel_rfl, fun F w vs hfwf hargs hdis => ?_⟩
  obtain ⟨M, hi⟩ := @entry_ok Try.f3 [.fz (.sl 29 (es.map encEv))] 73 (show Try.f3.ntmps = 73 + 1 by kernel_rfl) _ _ _ hfwf hargs hdis
  refine (callsIn_wide (n := 1)).1 (callsIn_of_wp Try.func3 body3 trivial ?_ rfl)
  have ret : ∀ s' M' F' a' w', Inv (ownB [.fz (.sl 29 (es.map encEv))] vs.toList) F w M' F' s'.env s'.mem a' w' → kRet [(.t 2)] (.fz (.bool true)) s' → bodyPost Try.prog Try.f3 (fun e w' => ∃ v F', e = Ending.returned v ∧ Grow (ownB [.fz (.sl 29 (es.map encEv))] vs.toList) F w F' w' ∧ ResOK F' w' (Nw (ownB [.fz (.sl 29 (es.map encEv))] vs.toList) w) (.fz (.bool true)) v) .ret a' w' := by
    intro s' M' F' a' w' h hk
    obtain ⟨v, F'', h1, h2, h3⟩ := ret_ok h tr3r hk
    exact ⟨h.dl, v, h1, v, F'', rfl, h2, h3⟩
  refine wpIn_seq (part no_pA0 tr_pA0 ca_pA0 (s := ⟨E0 es, []⟩) hi (walkA0 es) ?_ ret)
  intro s1 M1 F1 a1 w1 hi1 hk1
  refine wpIn_seq (part no_pA1 tr_pA1 ca_pA1 (s := ⟨E0 es, []⟩) (toE0 hi1 hk1.1 hk1.2) (walkA1 es) ?_ ret)
  intro s2 M2 F2 a2 w2 hi2 hk2
  refine wpIn_seq (part no_pA2 tr_pA2 ca_pA2 (s := ⟨E0 es, []⟩) (toE0 hi2 hk2.2.1 hk2.2.2) (walkA2 es hk2.1) ?_ ret)
  intro s3 M3 F3 a3 w3 hi3 hk3
  have hb := few_le hk3.1
  refine wpIn_seq (reg1 (toE0 hi3 hk3.2.1 hk3.2.2) hb ?_)
  intro a4 w4 M4 F4 hi4
  refine wpIn_seq (part no_pC tr_pC ca_pC (s := ⟨E1 es, mV es⟩) hi4 (walkC es hb) ?_ ret)
  intro s5 M5 F5 a5 w5 hi5 hk5
  refine wpIn_seq (lend (toE2 hi5 hk5) ?_)
  intro M6 F6 a6 w6 hi6
  refine wpIn_seq (part no_pL tr_pL ca_pL (s := ⟨E2 es, mV es⟩) hi6 (walkL es) ?_ ret)
  intro s7 M7 F7 a7 w7 hi7 hk7
  exact part no_pT tr_pT ca_pT (s := ⟨E3 es, []⟩) (toE3 hi7 hk7) (walkT es hb) (fun _ _ _ _ _ _ h => h.elim) ret
end Go.Proofs.Ythackanfbemabaa.E
