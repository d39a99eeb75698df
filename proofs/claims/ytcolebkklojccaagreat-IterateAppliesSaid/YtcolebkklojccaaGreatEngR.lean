/-
  The engine, part R: regions that draw their order.
-/
import Derived.Test.YtcolebkklojccaaGreatEngS
set_option linter.unusedVariables false
set_option linter.unusedSimpArgs false
set_option linter.unusedSimpArgs false
set_option linter.unusedVariables false
namespace Go.Proofs.YtcolebkklojccaaGreat.E
open Go

def extA : AOp → Bool
  | .alloc _ | .box _ | .buildSl _ _ _ _ _ | .call false _ _ | .callv _ _ | .appn _ _ _ _ _ | .bs0 _ _ _ => true
  | op => quietA op

def bindsAll (cl : Nat) (o : Oper) : Bool := o.after.all fun e => !Region.binds .any e || cl.testBit e.on
def clStep (i : Nat) : List Oper → Nat → Nat → Nat
  | [], _, cl => cl
  | o :: l, j, cl => clStep i l (j + 1) (if j != i && bindsAll cl o then cl ||| (1 <<< j) else cl)
def maskOf (listed : Array Bool) : Nat → Nat
  | 0 => 0
  | n + 1 => maskOf listed n ||| (if listed.getD n false then 1 <<< n else 0)
def covB (n : Nat) (listed : Array Bool) (cl : Nat) : Bool := (List.range n).all fun j => !listed.getD j false || cl.testBit j
def closedB (ops : Array Oper) (i cl : Nat) : Bool := (List.range ops.size).all fun j => j == i || cl.testBit j || match ops[j]? with
  | some o => !bindsAll cl o
  | none => true
def extI (al : List AOper) (j : Nat) : Bool := match al[j]? with
  | some a => extA a.op
  | none => false
def okB (ops : Array Oper) (al : List AOper) (listed : Array Bool) (oi : Oper) (cl : Nat) (st : Bool) : Bool := (List.range ops.size).all fun j => !cl.testBit j || listed.getD j true || match ops[j]? with
  | some o => oi.apart ops o && (st || extI al j)
  | none => true
def okQ (ops : Array Oper) (al : List AOper) (listed : Array Bool) (i : Nat) : Option (Nat × Bool × Nat) := match ops[i]?, al[i]? with
  | some oi, some ai =>
    let cl := clStep i ops.toList 0 (maskOf listed ops.size)
    if quietA ai.op && !cl.testBit i && covB ops.size listed cl && closedB ops i cl then
      if okB ops al listed oi cl false then some (i, false, cl) else if okB ops al listed oi cl true then some (i, true, cl) else none
    else none
  | _, _ => none
def altsOf (f : Nat → Option DT) : List Nat → Option DT
  | [] => none
  | [i] => f i
  | i :: l => match f i, altsOf f l with
    | some x, some y => some (.alt x y)
    | _, _ => none
def opT (ao : Option AOper) (n : Option DT) : Option DT := match ao, n with
  | some a, some n => some (.op a n)
  | _, _ => none
def qT (st : Bool) (ao : Option AOper) (n : Option DT) : Option DT := match ao, n with
  | some a, some n => some (.q st a n)
  | _, _ => none
def build (ops : Array Oper) (al : List AOper) : Nat → Array Bool → Option DT
  | 0, listed => if (Region.ready .any ops listed).isEmpty then some .nil else none
  | fuel + 1, listed => match Region.ready .any ops listed with
    | [] => some .nil
    | r => match r.findSome? (okQ ops al listed) with
      | some (i, st, _) => qT st al[i]? (build ops al fuel (listed.setIfInBounds i true))
      | none => altsOf (fun i => opT al[i]? (build ops al fuel (listed.setIfInBounds i true))) r
/-- the orders of all but the last operation, which waits for the others -/
def okL (ops : Array Oper) (al : List AOper) (L : Nat) (listed : Array Bool) (i : Nat) : Option (Nat × Bool × Nat) := match okQ ops al listed i with
  | some (j, st, cl) => if cl.testBit L then none else some (j, st, cl)
  | none => none
def buildL (ops : Array Oper) (al : List AOper) (L : Nat) : Nat → Array Bool → Option DT
  | 0, _ => none
  | fuel + 1, listed => match Region.ready .any ops listed with
    | [] => none
    | r => if r = [L] then (if (Region.ready .any ops (listed.setIfInBounds L true)).isEmpty then some .nil else none)
      else if r.contains L then none
      else match r.findSome? (okL ops al L listed) with
        | some (i, st, _) => qT st al[i]? (buildL ops al L fuel (listed.setIfInBounds i true))
        | none => altsOf (fun i => opT al[i]? (buildL ops al L fuel (listed.setIfInBounds i true))) r
/-- a call that hands nothing back -/
def mute (P : Program) : AOp → Bool
  | .call false f _ => match P.funcs[f]? with
    | some fn => fn.results.size == 0
    | none => false
  | _ => false
def mkDL (P : Program) (ops : Array Oper) : Option (DT × AOper) := if P.follows .mixedOrders && Region.noSelect ops then match trOpers P ops ops.toList with
  | some al => match al[ops.size - 1]? with
    | some o => if mute P o.op then (buildL ops al (ops.size - 1) ops.size (Array.replicate ops.size false)).map fun t => (t, o) else none
    | none => none
  | none => none else none
def mkDT (P : Program) (fl : List Nat) (ops : Array Oper) : Option DT := if P.follows .mixedOrders && Region.noSelect ops then match trOpers P ops ops.toList with
  | some al => build ops (flagL fl al) ops.size (Array.replicate ops.size false)
  | none => none
  else none

section
variable {P : Program} {O : Nat → Prop} {F0 : Frz} {w0 : World} {M : Hnd} {F F' : Frz} {a : Act} {w w' w'' : World} {s : DS} {K : DS → Prop} {Q : Exit → Act → World → Prop} {o : Oper} {ops : Array Oper}

theorem Ext.trans (h : Ext w w') (k : Ext w' w'') : Ext w w'' := fun b hb => by
  have h1 := h b hb
  have : b < w'.heap.size := by
    rw [Array.getElem?_eq_getElem hb] at h1
    exact (Array.getElem?_eq_some_iff.1 h1).1
  exact (k b this).trans h1
theorem Stb.trans {st st' : Bool} (h : Stb st' F w w') (k : Stb st F w' w'') (hs : st = true ∨ st' = false) : Stb st F w w'' :=
  ⟨fun b o hb => (k.1 b o hb).trans (h.1 b o hb), fun e => by
    rcases hs with hs | hs
    · rw [hs] at e; cases e
    · exact (h.2 hs).trans (k.2 e)⟩
theorem Stb.refl (st : Bool) (F : Frz) (w : World) : Stb st F w w := ⟨fun _ _ _ => rfl, fun _ _ _ => rfl⟩
theorem Stb.mono {st : Bool} (h : ∀ b o, F b o → F' b o) (k : Stb st F' w w') : Stb st F w w' := ⟨fun b o hb => k.1 b o (h b o hb), k.2⟩

/-! ### what an operation keeps -/
def Own (M : Hnd) (mem : Mem) (b : Nat) : Prop := ∃ k blk v, mget mem k = some blk ∧ M k = some v ∧ hblk v = some b
theorem Inv.rebase {env : List DV} {mem : Mem} (hi : Inv O F0 w0 M F env mem a w) : Inv (Own M mem) F w M F env mem a w := by
  refine ⟨hi.dl, hi.ev, fun k blk hk => ?_, hi.dis, ⟨fun _ _ h => h, fun _ _ h => .inl h, hi.grow.fwf, Nat.le_refl _, fun _ _ _ => rfl, rfl, rfl, rfl⟩⟩
  have h := hi.mm k blk hk
  cases blk with
  | box cells =>
    obtain ⟨b, arr, t, h1, h2, r⟩ := h
    exact ⟨b, arr, t, h1, .inr ⟨k, _, _, hk, h1, rfl⟩, r⟩
  | vec e sz xs =>
    obtain ⟨v, h1, h2⟩ := h
    exact ⟨v, h1, by
      obtain ⟨hs, h3⟩ := h2
      refine ⟨hs, ?_⟩
      rcases h3 with h3 | ⟨g, cap, cur, rfl, hc, h4, r⟩
      · exact .inl h3
      · exact .inr ⟨g, cap, cur, rfl, hc, .inr ⟨k, _, _, hk, h1, by simp only [hblk, if_neg (Nat.pos_iff_ne_zero.1 hc)]⟩, r⟩⟩
  | mp kk es =>
    obtain ⟨v, h1, r, arr, clk, e1, h2, h3⟩ := h
    exact ⟨v, h1, r, arr, clk, e1, .inr ⟨k, _, _, hk, h1, by rw [e1]; rfl⟩, h3⟩
def GdX (e : Bool) (O : Nat → Prop) (F0 : Frz) (w0 : World) (F : Frz) (w1 : World) (K : DS → Prop) (a : Act) (w : World) : Prop :=
  ∃ s M F', Inv O F0 w0 M F' s.env s.mem a w ∧ K s ∧ (∀ b o, F b o → F' b o) ∧ Stb (!e) F w1 w
theorem unbase {env : List DV} {mem : Mem} (hi : Inv O F0 w0 M F env mem a w) {M' : Hnd} {env' : List DV} {mem' : Mem} {a' : Act} (h : Inv (Own M mem) F w M' F' env' mem' a' w') : Inv O F0 w0 M' F' env' mem' a' w' := by
  have hN : ∀ b, Nw (Own M mem) w b → Nw O w0 b := by
    intro b hb
    rcases hb with h1 | ⟨k, blk, v, h1, h2, h3⟩
    · exact .inl (Nat.le_trans hi.grow.size h1)
    · exact ((hi.mm k blk h1).block h2 h3).1
  refine ⟨h.dl, h.ev, fun k blk hk => ?_, h.dis, ⟨fun b o hb => h.grow.sub b o (hi.grow.sub b o hb), fun b o hb => ?_, h.grow.fwf, Nat.le_trans hi.grow.size h.grow.size, fun b hb hO => ?_, h.grow.os.trans hi.grow.os, h.grow.tape.trans hi.grow.tape, h.grow.output.trans hi.grow.output⟩⟩
  · have h1 := h.mm k blk hk
    cases blk with
    | box cells =>
      obtain ⟨b, arr, t, h1, h2, r⟩ := h1
      exact ⟨b, arr, t, h1, hN _ h2, r⟩
    | vec e sz xs =>
      obtain ⟨v, h1, h2⟩ := h1
      exact ⟨v, h1, h2.weakN hN⟩
    | mp kk es =>
      obtain ⟨v, h1, r, arr, clk, e1, h2, h3⟩ := h1
      exact ⟨v, h1, r, arr, clk, e1, hN _ h2, h3⟩
  · rcases h.grow.new b o hb with h1 | h1
    · exact hi.grow.new b o h1
    · exact .inr (hN b h1)
  · have hlt : b < w.heap.size := Nat.lt_of_lt_of_le hb hi.grow.size
    refine (h.grow.block b hlt fun hx => ?_).trans (hi.grow.block b hb hO)
    rcases hN b (.inr hx) with h1 | h1
    · omega
    · exact hO h1
theorem gdX_of {e : Bool} (hi : Inv O F0 w0 M F s.env s.mem a w) {a' : Act} (h : Gd (Own M s.mem) F w K a' w') (he : e = true → Ext w w') : GdX e O F0 w0 F w K a' w' := by
  obtain ⟨s', M', F', h1, h2⟩ := h
  refine ⟨s', M', F', unbase hi h1, h2, h1.grow.sub, fun b o hb => ?_, fun e' => he (by simpa using e')⟩
  refine cell_of_block (h1.grow.block b (hi.grow.fwf b o hb) ?_) o
  rintro ⟨k, blk, v, g1, g2, g3⟩
  exact ((hi.mm k blk g1).block g2 g3).2.1 o hb

theorem Yd.wp {st : Bool} (h : Yd P st O F0 w0 F o a w K) : o.wp P a w (GdE w O F0 w0 K) Q := by
  obtain ⟨v, h1, s', M', h2, h3⟩ := h
  unfold Oper.wp
  rw [h1 w (Stb.refl _ _ _)]
  exact ⟨⟨s', M', F, h2, h3⟩, fun _ _ => rfl⟩
theorem trLen_ext {ts : List TypeId} {args : List Operand} {ao : AOp} (h : trLen P ts args = some ao) : extA ao = false := by
  unfold trLen at h
  repeat' (split at h)
  all_goals first | (cases h; done) | (cases h; rfl)
theorem trApp_ext {ts : List TypeId} {args : List Operand} {ao : AOp} (h : trApp P ts args = some ao) : extA ao = false := by
  unfold trApp at h
  repeat' (split at h)
  all_goals first | (cases h; done) | (cases h; rfl)
theorem trMm_ext {b : Bool} {args : List Operand} {ao : AOp} (h : trMm b args = some ao) : extA ao = false := by
  unfold trMm at h
  repeat' (split at h)
  all_goals first | (cases h; done) | (cases h; rfl)
theorem trRm_ext {ts : List TypeId} {args : List Operand} {ao : AOp} (h : trRm P ts args = some ao) : extA ao = false := by
  unfold trRm at h
  repeat' (split at h)
  all_goals first | (cases h; done) | (cases h; rfl)
theorem trCall_ext {c : Call} {ao : AOp} (h : trCall P c = some ao) (he : extA ao = true) : ∃ x xs ts, c = { callee := .value x, args := xs, argTypes := ts } ∧ trFun x xs.toList = some ao := by
  obtain ⟨callee, args, argTypes⟩ := c
  cases callee with
  | builtin b =>
    exfalso
    cases b <;> simp only [trCall, trBuiltin] at h <;> first | (cases h; done) | (rw [trRm_ext h] at he; cases he) | (rw [trLen_ext h] at he; cases he) | (rw [trApp_ext h] at he; cases he) | (rw [trMm_ext h] at he; cases he)
  | value x => exact ⟨x, args, argTypes, rfl, h⟩
  | invoke x n => cases h
theorem trMkfn_kind {fn : Fn} {x y : Array Operand} {ao : AOp} (h : trMkfn fn x y = some ao) : ∃ f as, ao = .mkfn f as := by
  unfold trMkfn at h
  split at h <;> try (cases h; done)
  split at h <;> try (cases h; done)
  simp only [Option.map_eq_some_iff] at h
  obtain ⟨as, _, rfl⟩ := h
  exact ⟨_, as, rfl⟩
theorem dRun_extA (hi : Inv O F0 w0 M F s.env s.mem a w) {e sz b : Nat} {sx x : AX} (h : trOp P o.op = some (.app e sz b sx x)) (hK : kAppn e sz b (ev s.env sx) (ev s.env x) o.dst s K) : o.wp P a w (GdE w O F0 w0 K) Q := by
  have arr2 : ∀ {α : Type} {xs : Array α} {x y : α}, xs.toList = [x, y] → xs = #[x, y] := fun h => by apply Array.ext'; simpa using h
  cases hop : o.op <;> rw [hop] at h <;> simp only [trOp] at h <;> try (cases h; done)
  case call c =>
    obtain ⟨callee, args, argTypes⟩ := c
    cases callee with
    | builtin bu =>
      simp only [trCall] at h
      cases bu <;> simp only [trBuiltin] at h <;> try (cases h; done)
      case append =>
        unfold trApp at h
        split at h <;> try (cases h; done)
        rename_i t t' x y e1 e2
        have e1' := arr2 e1
        have e2' := arr2 e2
        subst e1'; subst e2'
        split at h <;> try (cases h; done)
        rename_i e ax ay h1 h2 h3
        split at h <;> try (cases h; done)
        rename_i i zs h4 h5
        split at h <;> try (cases h; done)
        rename_i h6
        simp only [Bool.and_eq_true, decide_eq_true_eq, beq_iff_eq] at h6
        obtain ⟨⟨rfl, h6⟩, h7⟩ := h6
        simp only [Option.some.injEq] at h
        cases h
        exact sound_appn hi hop h1 h4 h5 h7 h6 h2 h3 hK
      all_goals first
        | (unfold trLen at h; (repeat' (split at h)); all_goals (cases h; done))
        | (unfold trMm at h; (repeat' (split at h)); all_goals (cases h; done))
        | (unfold trRm at h; (repeat' (split at h)); all_goals (cases h; done))
    | value x =>
      simp only [trCall] at h
      unfold trFun at h
      split at h
      · simp only [Option.map_eq_some_iff] at h
        obtain ⟨_, _, h⟩ := h
        cases h
      · split at h <;> cases h
    | invoke x n => cases h
  case makeFunc fn x y => obtain ⟨_, _, h⟩ := trMkfn_kind h; cases h
  case makeMap t r => split at h <;> cases h
  case mapUpdate t m k v => split at h <;> cases h
  case lookup t x i ok =>
    cases ok <;> simp only at h <;> try (cases h; done)
    split at h <;> cases h
  all_goals (exfalso; revert h; (repeat' split) <;> intro h <;> first | (cases h; done) | (simp only [Option.map_eq_some_iff] at h; obtain ⟨_, _, h⟩ := h; cases h))
theorem dRun_extB (hi : Inv O F0 w0 M F s.env s.mem a w) {e sz : Nat} {zs : List DV} (h : trOp P o.op = some (.buildSl e sz 0 zs [])) (hK : kPut o.dst s K .e0) : o.wp P a w (GdE w O F0 w0 K) Q := by
  cases hop : o.op <;> rw [hop] at h <;> simp only [trOp] at h <;> try (cases h; done)
  case buildSlice t len parts =>
    split at h <;> try (cases h; done)
    rename_i e h1
    split at h <;> try (cases h; done)
    rename_i sz zs ps h2 h3 h4
    split at h <;> try (cases h; done)
    simp only [Option.some.injEq] at h
    cases h
    exact sound_bs0 hi hop h1 h2 h4 hK
  case makeFunc fn x y => obtain ⟨_, _, h⟩ := trMkfn_kind h; cases h
  case call c =>
    obtain ⟨callee, args, argTypes⟩ := c
    cases callee with
    | builtin b =>
      cases b <;> simp only [trCall, trBuiltin] at h <;> try (cases h; done)
      all_goals first
        | (unfold trLen at h; (repeat' (split at h)); all_goals (cases h; done))
        | (unfold trApp at h; (repeat' (split at h)); all_goals (cases h; done))
        | (unfold trMm at h; (repeat' (split at h)); all_goals (cases h; done))
        | (unfold trRm at h; (repeat' (split at h)); all_goals (cases h; done))
    | value x =>
      simp only [trCall] at h
      unfold trFun at h
      split at h
      · simp only [Option.map_eq_some_iff] at h
        obtain ⟨_, _, h⟩ := h
        cases h
      · split at h <;> cases h
    | invoke x n => cases h
  case makeMap t r => split at h <;> cases h
  case mapUpdate t m k v => split at h <;> cases h
  case lookup t x i ok =>
    cases ok <;> simp only at h <;> try (cases h; done)
    split at h <;> cases h
  all_goals (exfalso; revert h; (repeat' split) <;> intro h <;> first | (cases h; done) | (simp only [Option.map_eq_some_iff] at h; obtain ⟨_, _, h⟩ := h; cases h))
theorem extA_cases {ao : AOp} (he : extA ao = true) : (∃ e sz b sx x, ao = .appn e sz b sx x) ∨ (∃ e sz zs, ao = .bs0 e sz zs) ∨ stripOp ao = ao := by
  cases ao <;> first | exact .inr (.inr rfl) | exact .inl ⟨_, _, _, _, _, rfl⟩ | exact .inr (.inl ⟨_, _, _, rfl⟩) | skip
  rename_i ow f as
  cases ow with
  | false => exact .inr (.inr rfl)
  | true => simp [extA, quietA] at he
theorem dRun_ext (hi : Inv O F0 w0 M F s.env s.mem a w) {ao : AOp} (he : extA ao = true) (h : trOp P o.op = some (stripOp ao)) (hK : dRun P ao s o.dst K) : o.wp P a w (GdE w O F0 w0 K) Q := by
  rcases extA_cases he with ⟨e, sz, b, sx, x, rfl⟩ | ⟨e, sz, zs, rfl⟩ | hst
  · exact dRun_extA hi h hK
  · exact dRun_extB hi h hK
  rw [hst] at h
  have viaQ : quietA ao = true → o.wp P a w (GdE w O F0 w0 K) Q := fun hq =>
    (dRun_yd (st := false) hi hq (by have : stripOp ao = ao := by cases ao <;> first | rfl | (simp [quietA] at hq)
                                     rw [this]; exact h) hK).wp
  by_cases hq : quietA ao = true
  · exact viaQ hq
  · clear viaQ
    cases hop : o.op <;> rw [hop] at h <;> simp only [trOp] at h <;> try (cases h; done)
    case alloc t =>
      simp only [Option.map_eq_some_iff] at h
      obtain ⟨zs, h1, rfl⟩ := h
      cases hdst : o.dst with
      | none => rw [hdst] at hK; exact hK.elim
      | some d => exact sound_alloc hi hop h1 hdst (by rw [hdst] at hK ⊢; exact hK)
    case box t x =>
      simp only [Option.map_eq_some_iff] at h
      obtain ⟨ax, h1, rfl⟩ := h
      exact sound_box hi hop h1 hK
    case buildSlice t len parts =>
      split at h <;> try (cases h; done)
      rename_i e h1
      split at h <;> try (cases h; done)
      rename_i sz zs ps h2 h3 h4
      split at h <;> try (cases h; done)
      rename_i h5
      simp only [Bool.and_eq_true, decide_eq_true_eq, beq_iff_eq] at h5
      simp only [Option.some.injEq] at h
      subst h
      obtain ⟨s', F', hi', _, hK⟩ := frzArgs_ok hi (show frzArgs _ fuelF s _ from hK)
      cases hdst : o.dst with
      | none =>
        exfalso
        rw [hdst] at hK
        have : ∀ (env : List DV) (sz : Nat) (l : List (Nat × AX)) (xs : List (List DV)), ¬ rowsK env sz l xs (fun _ => False) := by
          intro env sz l
          induction l with
          | nil => intro xs h; exact h
          | cons p l ih =>
            intro xs h
            obtain ⟨i, x⟩ := p
            simp only [rowsK] at h
            cases hx : ev env x <;> rw [hx] at h <;> simp only [cellsK] at h <;> first | exact ih _ h.2.2.2 | exact ih _ h.2.2.2.2
        exact this _ _ _ _ hK
      | some d => exact sound_buildSl hi' hop h1 h2 h3 h4 h5.1.1 h5.1.2 h5.2 hdst (by rw [hdst] at hK ⊢; exact hK)
    case makeMap t r =>
      split at h <;> try (cases h; done)
      simp only [Option.some.injEq] at h
      subst h
      cases he
    case mapUpdate t m k v =>
      split at h <;> try (cases h; done)
      simp only [Option.some.injEq] at h
      subst h
      cases he
    case lookup t x i ok =>
      cases ok <;> simp only at h <;> try (cases h; done)
      split at h <;> try (cases h; done)
      simp only [Option.some.injEq] at h
      subst h
      cases he
    case makeFunc fn x y =>
      obtain ⟨f, as, rfl⟩ := trMkfn_kind h
      simp [extA, quietA] at he
    case call c =>
      obtain ⟨x, xs, ts, rfl, h1⟩ := trCall_ext h he
      unfold trFun at h1
      split at h1
      · simp only [Option.map_eq_some_iff] at h1
        obtain ⟨as', h2, rfl⟩ := h1
        exact sound_callE hi hop h2 hK
      · split at h1 <;> try (cases h1; done)
        rename_i ax' as' h2 h3
        simp only [Option.some.injEq] at h1
        subst h1
        exact sound_callv hi hop h2 h3 hK
    all_goals (exfalso; revert h; (repeat' split) <;> intro h <;> first | (cases h; done) | (simp only [Option.some.injEq] at h; subst h; first | (exact hq rfl) | (simp [extA, quietA] at he)) | (simp only [Option.map_eq_some_iff] at h; obtain ⟨_, _, rfl⟩ := h; first | (exact hq rfl) | (simp [extA, quietA] at he)))
end
end Go.Proofs.YtcolebkklojccaaGreat.E
