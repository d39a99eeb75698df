/-
  The engine, ranges over functions, part A: a walk carries over to a round's frame and to an activation with deferred marks.
-/
import Derived.Test.YthackanfbemabaaEngU
import Derived.RangeFuncNested
import Derived.RangeFuncLeaves
import Derived.Sort.LoopGhostIn
import Derived.OrdersIn
import Derived.Test.YthackanfbemabaaEngU3
import Derived.Test.YthackanfbemabaaEngV
import Derived.Maps.RangeRun
set_option linter.unusedVariables false
set_option linter.unusedSimpArgs false
set_option linter.unusedSimpArgs false
set_option linter.unusedVariables false
namespace Go.Proofs.Ythackanfbemabaa.E
open Go

/-- no 'defer', and no slot of J is written -/
def calmOp (J : List Nat) (o : Oper) : Bool := (match o.op with | .defer _ => false | _ => true) && (match o.dst with | some d => !J.contains d | none => true)
def calmOps (J : List Nat) (ops : Array Oper) : Bool := ops.toList.all (calmOp J)
abbrev Gf (ro : Option Nat) : Fence := { Fence.wide with round := ro }

section
variable {P : Program} {ro : Option Nat} {n : Nat} {J : List Nat}
theorem callsIn_Gf {f : FuncId} {args : Array Value} {w : World} {R : Ending → World → Prop} (h : Calls P f args w R) : CallsIn (Gf ro) n P f args w R :=
  show CallsIn Fence.wide n P f args w R from callsIn_wide.2 h
theorem rowsIn_Gf {row : String} {args : Array Value} {w : World} {R : Value → World → Prop} (h : Rows P row args w R) : RowsIn (Gf ro) n P row args w R :=
  fun c cs _ => let ⟨v, w', r, s⟩ := h c cs; ⟨v, w', r, stepsIn_wide.2 s⟩

/-- an activation, less what lay deferred ahead -/
def less (pre : List Deferred) (a : Act) : Act := { a with defers := pre }
/-- J's slots are as they were -/
def Av (J : List Nat) (t0 : Array Value) (a : Act) : Prop := ∀ j ∈ J, a.tmps[j]? = t0[j]?
def Fr (J : List Nat) (t0 : Array Value) (ds : List Deferred) (K : Act → World → Prop) (a : Act) (w : World) : Prop := ∃ pre, a.defers = pre ++ ds ∧ Av J t0 a ∧ K (less pre a) w
def FrQ (J : List Nat) (t0 : Array Value) (ds : List Deferred) (Q : Exit → Act → World → Prop) (e : Exit) (a : Act) (w : World) : Prop := Fr J t0 ds (Q e) a w

theorem Av.put {t0 : Array Value} {a : Act} (h : Av J t0 a) {dst : Option Tmp} (hd : (match dst with | some d => !J.contains d | none => true) = true) (v : Value) : Av J t0 (a.put dst v) := by
  intro j hj
  cases dst with
  | none => exact h j hj
  | some d =>
    have hne : d ≠ j := by
      rintro rfl
      simp at hd
      exact hd hj
    simp only [Act.put]
    rw [Array.getElem?_setIfInBounds_ne hne]
    exact h j hj
theorem less_put {pre : List Deferred} {a : Act} (dst : Option Tmp) (v : Value) : less pre (a.put dst v) = (less pre a).put dst v := by cases dst <;> rfl
theorem put_defers' {a : Act} (dst : Option Tmp) (v : Value) : (a.put dst v).defers = a.defers := by cases dst <;> rfl
theorem eval_less (pre : List Deferred) (a : Act) : (less pre a).eval = a.eval := by
  funext x
  cases x <;> rfl

theorem op_frame {o : Oper} {a : Act} {w : World} {t0 : Array Value} {ds pre : List Deferred} {K : Act → World → Prop} {Q : Exit → Act → World → Prop} (hc : calmOp J o = true) (hd : a.defers = pre ++ ds) (hJ : Av J t0 a) (hQ : ∀ a w, ¬ Q .outgrown a w)
    (h : o.wp P (less pre a) w K Q) : o.wpIn (Gf ro) n P a w (Fr J t0 ds K) (FrQ J t0 ds Q) := by
  simp only [calmOp, Bool.and_eq_true] at hc
  obtain ⟨hc1, hc2⟩ := hc
  refine ⟨fun _ _ => trivial, ?_⟩
  have hs : Oper.semAt (Gf ro).round a.eval o = execOp a.eval o := Oper.semAt_eq _ _ _ fun c e => by rw [e] at hc1; cases hc1
  rw [hs]
  unfold Oper.wp at h
  rw [eval_less] at h
  generalize (execOp a.eval o).run P w = r at h ⊢
  have put : ∀ v w', K ((less pre a).put o.dst v) w' → Fr J t0 ds K (a.put o.dst v) w' := fun v w' hk => ⟨pre, by rw [put_defers', hd], hJ.put hc2 v, by rw [less_put]; exact hk⟩
  cases r with
  | ok x w' =>
    cases x with
    | value v => exact put v w' h
    | skip => exact put _ w' h
    | defer d => exact ⟨d :: pre, by rw [put_defers', hd]; rfl, by exact Av.put (a := { a with defers := d :: a.defers }) hJ hc2 _, by rw [less_put]; exact h⟩
    | enter f args =>
      refine ⟨fun e => Bool.noConfusion (show false = true from e), callsIn_Gf (Calls.mono h fun e w'' he => ?_)⟩
      cases e with
      | returned v => exact put v w'' he
      | panicked chain => exact ⟨pre, hd, hJ, he⟩
      | outgrown => obtain ⟨a', w3, hq⟩ := he; exact absurd hq (hQ _ _)
    | row row args => exact ⟨fun e => Bool.noConfusion (show false = true from e), rowsIn_Gf (Rows.mono h fun v w'' he => put v w'' he)⟩
    | _ => exact h.elim
  | halt x w' =>
    cases x with
    | panic v => exact ⟨pre, hd, hJ, h⟩
    | _ => exact h.elim
theorem ops_frame {ops : Array Oper} {t0 : Array Value} {ds : List Deferred} {Q : Exit → Act → World → Prop} (hc : calmOps J ops = true) (hQ : ∀ a w, ¬ Q .outgrown a w) : ∀ (l : List Nat) (pre : List Deferred) (a : Act) (w : World), a.defers = pre ++ ds → Av J t0 a →
    wpOps P ops Q l (less pre a) w → wpOpsIn (Gf ro) n P ops (FrQ J t0 ds Q) l a w
  | [], pre, a, w, hd, hJ, h => ⟨pre, hd, hJ, h⟩
  | i :: l, pre, a, w, hd, hJ, h => by
    unfold wpOps at h
    unfold wpOpsIn
    split at h
    · rename_i ho
      simp only [ho]
      exact ops_frame hc hQ l pre a w hd hJ h
    · rename_i o ho
      simp only [ho]
      have hco : calmOp J o = true := by
        unfold calmOps at hc
        rw [List.all_eq_true] at hc
        exact hc o (by simpa using Array.mem_of_getElem? ho)
      have hw : yielded ops (less pre a).tmps = yielded ops a.tmps := rfl
      rw [hw] at h
      split
      · rename_i hwt
        rw [if_pos hwt] at h
        rcases h with h | ⟨_, a', w', hq⟩
        · refine Oper.wpIn_mono (fun a' w' hf => ?_) (op_frame (ro := ro) (n := n) hco hd hJ hQ h)
          obtain ⟨pre', h1, h2, h3⟩ := hf
          exact ops_frame hc hQ l pre' a' w' h1 h2 h3
        · exact absurd hq (hQ _ _)
      · rename_i hwt
        rw [if_neg hwt] at h
        simp only [calmOp, Bool.and_eq_true] at hco
        exact ⟨fun _ _ => trivial, ops_frame hc hQ l pre (a.put o.dst undef) w (by rw [put_defers', hd]) (hJ.put hco.2 _) (by rw [less_put]; exact h)⟩

/-- what a region asks, ahead of the machine -/
def RegW (P : Program) (ops : Array Oper) (Q : Exit → Act → World → Prop) : Bool → Act → World → Prop
  | false, a, w => wpOps P ops Q (List.range ops.size) a w
  | true, a, w => ∀ t, wpOps P ops Q (Region.schedule (P.follows .mixedOrders) ops t) a { w with drawn := w.drawn + 1 }
theorem reg_frame {id : Nat} {ops : Array Oper} {d : Bool} {a : Act} {w : World} {t0 : Array Value} {ds pre : List Deferred} {Q : Exit → Act → World → Prop} (hc : calmOps J ops = true) (hd : a.defers = pre ++ ds) (hJ : Av J t0 a) (hQ : ∀ a w, ¬ Q .outgrown a w)
    (h : RegW P ops Q d (less pre a) w) : (Code.region id ops d).wpIn (Gf ro) n P (FrQ J t0 ds Q) a w := by
  cases d with
  | false => exact wpIn_region (ops_frame hc hQ _ pre a w hd hJ h)
  | true => exact wpIn_region_draw fun t => ops_frame hc hQ _ pre a _ hd hJ (h t)
end
theorem wpOps_of_list {P : Program} {ops : Array Oper} {Q : Exit → Act → World → Prop} {a : Act} {w : World} (h : wpList P ops Q ops.toList a w) : wpOps P ops Q (List.range ops.size) a w := by
  have := wpOps_eq_wpList (P := P) (ops := ops) (Q := Q) ops.toList 0 (fun j => by simp)
  rw [List.range_eq_range', ← Array.length_toList, this]
  exact h
theorem wpOps_of_any {P : Program} {ops : Array Oper} {Q : Exit → Act → World → Prop} {a : Act} {w : World} (hm : P.follows .mixedOrders = true) (h : wpAny P .any ops Q ops.size (Array.replicate ops.size false) a { w with drawn := w.drawn + 1 }) : RegW P ops Q true a w := by
  intro t
  simp only [Region.schedule, hm, Bool.true_or, if_true]
  exact wpAny_sound ops.size t _ a _ h

section
variable {P : Program} {O : Nat → Prop} {F0 : Frz} {w0 : World}
theorem opsW {ops : Array Oper} {al : List AOper} {s : DS} {M : Hnd} {F : Frz} {a : Act} {w : World} {Q : AE → DS → Prop} (h : trOpers P ops ops.toList = some (stripL al)) (hi : Inv O F0 w0 M F s.env s.mem a w) (hK : dOps P al s (Q .normal)) :
    RegW P ops (Lft O F0 w0 Q) false a w := wpOps_of_list (dOps_sound h hi hK fun a w hg => hg)
theorem drawW {ops : Array Oper} {dt : DT} {fl : List Nat} {s : DS} {M : Hnd} {F : Frz} {a : Act} {w : World} {Q : AE → DS → Prop} (h : mkDT P fl ops = some dt) (hi : Inv O F0 w0 M F s.env s.mem a w) (hK : dDT P dt s (Q .normal)) :
    RegW P ops (Lft O F0 w0 Q) true a w := by
  unfold mkDT at h
  split at h <;> try (cases h; done)
  rename_i hm
  simp only [Bool.and_eq_true] at hm
  split at h <;> try (cases h; done)
  rename_i al hal
  refine wpOps_of_any hm.1 (wpAny_of_X (F := F) (e := extI (flagL fl al)) (Qf := fun _ => QN O F0 w0 (Q .normal)) (N := Gd O F0 w0 (Q .normal)) (fun _ _ h => h) (fun _ _ _ _ h => h.elim) (fun _ h => by obtain ⟨_, _, h⟩ := h; exact h.elim) _ _ _ _ ?_)
  exact build_sound (al := flagL fl al) (by rw [flagL_strip, trOpers_strip hal]; exact hal) hm.2 _ _ dt s M F a _ h (by simp) hi.drew hK
end
end Go.Proofs.Ythackanfbemabaa.E

set_option linter.unusedSimpArgs false
set_option linter.unusedVariables false
namespace Go.Proofs.Ythackanfbemabaa.E
open Go
def calmCode (J : List Nat) : Code → Bool
  | .region _ ops _ => calmOps J ops
  | .seq a b => calmCode J a && calmCode J b
  | .cond _ a b => calmCode J a && calmCode J b
  | .block _ c => calmCode J c
  | .loop c => calmCode J c
  | .scope _ => false
  | .rangeFunc _ _ _ _ => false
  | _ => true
def noDp : AC → Bool
  | .drawp _ _ => false
  | .opsp _ => false
  | .seq a b => noDp a && noDp b
  | .cond _ a b => noDp a && noDp b
  | .block _ c => noDp c
  | .loop c => noDp c
  | .fz _ c => noDp c
  | _ => true
section
variable {P : Program} {O : Nat → Prop} {F0 : Frz} {w0 : World} {ro : Option Nat} {n : Nat} {J : List Nat} {t0 : Array Value} {ds : List Deferred}
theorem lft_out {Q : AE → DS → Prop} (a : Act) (w : World) : ¬ Lft O F0 w0 Q .outgrown a w := fun h => h
theorem dwpX_sound {fl : List Nat} : ∀ (ac : AC) {c : Code} {s : DS} {M : Hnd} {F : Frz} {a : Act} {w : World} {Q : AE → DS → Prop} {pre : List Deferred}, noDp ac = true → trCodeF P fl c = some (strip ac) → calmCode J c = true → a.defers = pre ++ ds → Av J t0 a → Inv O F0 w0 M F s.env s.mem (less pre a) w → dwp P ac s Q →
    c.wpIn (Gf ro) n P (FrQ J t0 ds (Lft O F0 w0 Q)) a w := by
  intro ac
  induction ac with
  | fz k ac ih =>
    intro c s M F a w Q pre hn h hc hd hJ hi hK
    obtain ⟨s', F', h1, _, h2⟩ := frzK_ok hi hK
    exact ih (by simpa [noDp] using hn) h hc hd hJ h1 h2
  | bad => intro c s M F a w Q pre hn h hc hd hJ hi hK; exact hK.elim
  | opsp l => intro c s M F a w Q pre hn; cases hn
  | drawp t o => intro c s M F a w Q pre hn; cases hn
  | skip =>
    intro c s M F a w Q pre hn h hc hd hJ hi hK
    cases c <;> simp only [trCodeF, trC, strip, Option.some.injEq] at h <;> first | exact wpIn_skip ⟨pre, hd, hJ, s, M, F, hi, hK⟩ | exact wpIn_label ⟨pre, hd, hJ, s, M, F, hi, hK⟩ | (cases hc; done) | skip
    all_goals first | (cases h; done) | (rcases trReg_kind P _ _ _ with ⟨_, e⟩ | ⟨_, e⟩ | ⟨_, _, e⟩ | e <;> rw [e] at h <;> cases h; done) | (rcases trCnd_kind _ _ _ with ⟨_, _, e⟩ | e <;> rw [e] at h <;> cases h; done)
  | ops l =>
    intro c s M F a w Q pre hn h hc hd hJ hi hK
    cases c <;> simp only [trCodeF, trC, strip, Option.some.injEq] at h <;> first | (cases hc; done) | skip
    case region id ops d =>
      obtain ⟨rfl, h1⟩ := trReg_ops h
      exact reg_frame hc hd hJ lft_out (opsW h1 hi hK)
    all_goals first | (cases h; done) | (rcases trReg_kind P _ _ _ with ⟨_, e⟩ | ⟨_, e⟩ | ⟨_, _, e⟩ | e <;> rw [e] at h <;> cases h; done) | (rcases trCnd_kind _ _ _ with ⟨_, _, e⟩ | e <;> rw [e] at h <;> cases h; done)
  | draw t =>
    intro c s M F a w Q pre hn h hc hd hJ hi hK
    cases c <;> simp only [trCodeF, trC, strip, Option.some.injEq] at h <;> first | (cases hc; done) | skip
    case region id ops d =>
      obtain ⟨rfl, h1⟩ := trReg_draw h
      exact reg_frame hc hd hJ lft_out (drawW h1 hi hK)
    all_goals first | (cases h; done) | (rcases trReg_kind P _ _ _ with ⟨_, e⟩ | ⟨_, e⟩ | ⟨_, _, e⟩ | e <;> rw [e] at h <;> cases h; done) | (rcases trCnd_kind _ _ _ with ⟨_, _, e⟩ | e <;> rw [e] at h <;> cases h; done)
  | seq x y ihx ihy =>
    intro c s M F a w Q pre hn h hc hd hJ hi hK
    simp only [noDp, Bool.and_eq_true] at hn
    cases c <;> simp only [trCodeF, trC, strip, Option.some.injEq] at h <;> first | (cases hc; done) | skip
    case seq cx cy =>
      simp only [AC.seq.injEq] at h
      obtain ⟨h1, h2⟩ := h
      simp only [calmCode, Bool.and_eq_true] at hc
      refine wpIn_seq (wpIn_mono (ihx hn.1 (congrArg some h1) hc.1 hd hJ hi hK) fun e a w hq => ?_)
      cases e with
      | normal =>
        obtain ⟨pre', hd', hJ', s', M', F', hi', hK'⟩ := hq
        exact ihy hn.2 (congrArg some h2) hc.2 hd' hJ' hi' hK'
      | exit id => exact hq
      | ret => exact hq
      | panic ch => exact hq
      | _ => obtain ⟨_, _, _, hq⟩ := hq; exact hq.elim
    all_goals first | (cases h; done) | (rcases trReg_kind P _ _ _ with ⟨_, e⟩ | ⟨_, e⟩ | ⟨_, _, e⟩ | e <;> rw [e] at h <;> cases h; done) | (rcases trCnd_kind _ _ _ with ⟨_, _, e⟩ | e <;> rw [e] at h <;> cases h; done)
  | cond x l r ihl ihr =>
    intro c s M F a w Q pre hn h hc hd hJ hi hK
    simp only [noDp, Bool.and_eq_true] at hn
    cases c <;> simp only [trCodeF, trC, strip, Option.some.injEq] at h <;> first | (cases hc; done) | skip
    case cond cc cx cy =>
      simp only [calmCode, Bool.and_eq_true] at hc
      rcases trCnd_kind (trX cc) (trC P fl cx) (trC P fl cy) with ⟨x', h0, e⟩ | e
      · rw [e] at h
        simp only [AC.cond.injEq] at h
        obtain ⟨rfl, h1, h2⟩ := h
        have h1 : trCodeF P fl cx = some (strip l) := congrArg some h1
        have h2 : trCodeF P fl cy = some (strip r) := congrArg some h2
        have hv := trX_ok h0 hi
        rw [eval_less] at hv
        have hK : kCond (ev s.env x') (dwp P l s Q) (dwp P r s Q) := hK
        cases hd' : ev s.env x' <;> rw [hd'] at hK hv <;> first | exact hK.elim | skip
        exact wpIn_cond_split (RV_bool hv) (fun e => ihl hn.1 h1 hc.1 hd hJ hi (hK.1 e)) (fun e => ihr hn.2 h2 hc.2 hd hJ hi (hK.2 e))
      · rw [e] at h
        cases h
    all_goals first | (cases h; done) | (rcases trReg_kind P _ _ _ with ⟨_, e⟩ | ⟨_, e⟩ | ⟨_, _, e⟩ | e <;> rw [e] at h <;> cases h; done) | (rcases trCnd_kind _ _ _ with ⟨_, _, e⟩ | e <;> rw [e] at h <;> cases h; done)
  | block id x ih =>
    intro c s M F a w Q pre hn h hc hd hJ hi hK
    cases c <;> simp only [trCodeF, trC, strip, Option.some.injEq] at h <;> first | (cases hc; done) | skip
    case block id' cx =>
      simp only [AC.block.injEq] at h
      obtain ⟨rfl, h1⟩ := h
      refine wpIn_block (wpIn_mono (ih (by simpa [noDp] using hn) (congrArg some h1) (by simpa [calmCode] using hc) hd hJ hi hK) fun e a w hq => ?_)
      cases e with
      | normal => exact hq
      | ret => exact hq
      | panic ch => exact hq
      | exit i =>
        obtain ⟨pre', hd', hJ', s', M', F', hi', hK'⟩ := hq
        simp only [kBlk] at hK'
        simp only [Exit.inBlock]
        split
        · rename_i e; rw [if_pos e] at hK'; exact ⟨pre', hd', hJ', s', M', F', hi', hK'⟩
        · rename_i e; rw [if_neg e] at hK'; exact ⟨pre', hd', hJ', s', M', F', hi', hK'⟩
      | _ => obtain ⟨_, _, _, hq⟩ := hq; exact hq.elim
    all_goals first | (cases h; done) | (rcases trReg_kind P _ _ _ with ⟨_, e⟩ | ⟨_, e⟩ | ⟨_, _, e⟩ | e <;> rw [e] at h <;> cases h; done) | (rcases trCnd_kind _ _ _ with ⟨_, _, e⟩ | e <;> rw [e] at h <;> cases h; done)
  | loop x ih =>
    intro c s M F a w Q pre hn h hc hd hJ hi hK
    cases c <;> simp only [trCodeF, trC, strip, Option.some.injEq] at h <;> first | (cases hc; done) | skip
    case loop cx =>
      simp only [AC.loop.injEq] at h
      have h1 : trCodeF P fl cx = some (strip x) := congrArg some h
      obtain ⟨I, m, ts, ks, hI, round⟩ := hK
      refine wpIn_loop_ghost (fun n a w => ∃ pre, a.defers = pre ++ ds ∧ Av J t0 a ∧ ∃ s M F, Inv O F0 w0 M F s.env s.mem (less pre a) w ∧ I n s) m ⟨pre, hd, hJ, _, M, F, forget_ok ts ks hi, hI⟩ ?_
      rintro m a w ⟨pre, hd, hJ, s, M, F, hi, hI⟩
      refine wpIn_mono (ih (by simpa [noDp] using hn) h1 (by simpa [calmCode] using hc) hd hJ hi (round m s hI)) fun e a w hq => ?_
      cases e with
      | normal =>
        obtain ⟨pre', hd', hJ', s', M', F', hi', m', ts', ks', hlt, hI'⟩ := hq
        exact ⟨m', hlt, pre', hd', hJ', _, M', F', forget_ok ts' ks' hi', hI'⟩
      | exit id => exact hq
      | ret => exact hq
      | panic ch => exact hq
      | _ => obtain ⟨_, _, _, hq⟩ := hq; exact hq.elim
    all_goals first | (cases h; done) | (rcases trReg_kind P _ _ _ with ⟨_, e⟩ | ⟨_, e⟩ | ⟨_, _, e⟩ | e <;> rw [e] at h <;> cases h; done) | (rcases trCnd_kind _ _ _ with ⟨_, _, e⟩ | e <;> rw [e] at h <;> cases h; done)
  | exit id =>
    intro c s M F a w Q pre hn h hc hd hJ hi hK
    cases c <;> simp only [trCodeF, trC, strip, Option.some.injEq] at h <;> first | (cases hc; done) | skip
    case exit id' => cases h; exact wpIn_exit ⟨pre, hd, hJ, s, M, F, hi, hK⟩
    all_goals first | (cases h; done) | (rcases trReg_kind P _ _ _ with ⟨_, e⟩ | ⟨_, e⟩ | ⟨_, _, e⟩ | e <;> rw [e] at h <;> cases h; done) | (rcases trCnd_kind _ _ _ with ⟨_, _, e⟩ | e <;> rw [e] at h <;> cases h; done)
  | ret =>
    intro c s M F a w Q pre hn h hc hd hJ hi hK
    cases c <;> simp only [trCodeF, trC, strip, Option.some.injEq] at h <;> first | (cases hc; done) | skip
    case ret => exact wpIn_ret ⟨pre, hd, hJ, s, M, F, hi, hK⟩
    all_goals first | (cases h; done) | (rcases trReg_kind P _ _ _ with ⟨_, e⟩ | ⟨_, e⟩ | ⟨_, _, e⟩ | e <;> rw [e] at h <;> cases h; done) | (rcases trCnd_kind _ _ _ with ⟨_, _, e⟩ | e <;> rw [e] at h <;> cases h; done)
end
end Go.Proofs.Ythackanfbemabaa.E

set_option linter.unusedSimpArgs false
set_option linter.unusedVariables false
namespace Go.Proofs.Ythackanfbemabaa.E
open Go
def noData : Obj → Bool
  | .cells _ _ _ => false
  | .map _ _ => false
  | _ => true
section
variable {O : Nat → Prop} {F0 : Frz} {w0 : World} {M M' : Hnd} {F F' : Frz} {env env' : List DV} {mem mem' : Mem} {a a' : Act} {w w' : World}
theorem own_data (hi : Inv O F0 w0 M F env mem a w) {k : Nat} {blk : Blk} {v : Value} {b : Nat} (h1 : mget mem k = some blk) (hv : M k = some v) (hb : hblk v = some b) : ∃ o, w.heap[b]? = some o ∧ noData o = false := by
  have h := hi.mm k blk h1
  cases blk with
  | box cells =>
    obtain ⟨b', arr, t, h1, h2, h3, h4, _, h5⟩ := h
    rw [hv] at h1; cases h1
    simp [hblk] at hb; subst hb
    exact ⟨_, h3, rfl⟩
  | vec e sz xs =>
    obtain ⟨v', h1, hs, h2⟩ := h
    rw [hv] at h1; cases h1
    rcases h2 with ⟨_, A, rfl⟩ | ⟨g, cap, cur, rfl, hc, h3, h4, h5, _⟩
    · cases A <;> simp [hblk] at hb
    · simp only [hblk, if_neg (Nat.pos_iff_ne_zero.1 hc), Option.some.injEq] at hb
      subst hb
      exact ⟨_, h5, rfl⟩
  | mp kk es =>
    obtain ⟨v', h1, r, arr, clk, rfl, h2, h3, h4, _⟩ := h
    rw [hv] at h1; cases h1
    simp only [hblk, Option.some.injEq] at hb
    subst hb
    exact ⟨_, h4, rfl⟩
theorem not_own (hi : Inv O F0 w0 M F env mem a w) {b : Nat} {o : Obj} (ho : w.heap[b]? = some o) (hn : noData o = true) : ¬ Own M mem b := by
  rintro ⟨k, blk, v, h1, h2, h3⟩
  obtain ⟨o', h4, h5⟩ := own_data hi h1 h2 h3
  rw [ho] at h4
  cases h4
  rw [hn] at h5
  cases h5

/-- a block of book-keeping -/
structure Aside (F : Frz) (w0 w : World) (b : Nat) (o : Obj) : Prop where
  here : w.heap[b]? = some o
  late : w0.heap.size ≤ b
  free : ∀ i, ¬ F b i
  nod : noData o = true
theorem Aside.lt {b : Nat} {o : Obj} (h : Aside F w0 w b o) : b < w.heap.size := (Array.getElem?_eq_some_iff.1 h.here).1
theorem Inv.turn (hi : Inv O F0 w0 M F env mem a w) {b : Nat} {o : Obj} (h : Aside F w0 w b o) (o' : Obj) : Inv O F0 w0 M F env mem a (w.putObj b o') :=
  hi.world (fun c => c = b) (fun c _ hc => World.putObj_heap_other hc) (by simp) rfl rfl rfl (fun c i hc => by subst hc; exact h.free i)
    (fun k blk v c h1 h2 h3 hc => by subst hc; exact not_own hi h.here h.nod ⟨k, blk, v, h1, h2, h3⟩) (fun c hc => by subst hc; exact .inl h.late)
theorem Aside.turn {b : Nat} {o : Obj} (h : Aside F w0 w b o) {o' : Obj} (hn : noData o' = true) : Aside F w0 (w.putObj b o') b o' := ⟨World.putObj_heap_same h.lt, h.late, h.free, hn⟩
theorem Aside.other {b c : Nat} {o o' : Obj} (h : Aside F w0 w b o) (hne : b ≠ c) : Aside F w0 (w.putObj c o') b o := ⟨(World.putObj_heap_other hne).trans h.here, h.late, h.free, h.nod⟩
theorem Aside.step (hi : Inv O F0 w0 M F env mem a w) {b : Nat} {o : Obj} (h : Aside F w0 w b o) (hs : Inv (Own M mem) F w M' F' env' mem' a' w') : Aside F' w0 w' b o := by
  have hno := not_own hi h.here h.nod
  refine ⟨(hs.grow.block b h.lt hno).trans h.here, h.late, fun i hf => ?_, h.nod⟩
  rcases hs.grow.new b i hf with h1 | h1 | h1
  · exact h.free i h1
  · have := h.lt; omega
  · exact hno h1
theorem Aside.grow {b : Nat} {o : Obj} (h : Aside F w0 w b o) (hg : Grow (fun _ => False) F w F' w') : Aside F' w0 w' b o := by
  refine ⟨(hg.block b h.lt (fun x => x)).trans h.here, h.late, fun i hf => ?_, h.nod⟩
  rcases hg.new b i hf with h1 | h1 | h1
  · exact h.free i h1
  · have := h.lt; omega
  · exact h1
theorem Inv.calm (hi : Inv O F0 w0 M F env mem a w) (hg : Grow (fun _ => False) F w F' w') : Inv O F0 w0 M F' env mem a w' :=
  hi.after hg (fun _ _ h => h.elim) (fun _ _ _ _ _ _ _ h => h) (fun _ h => h.elim)
theorem Grow.keeps {X : Nat → Prop} (hg : Grow X F w F' w') (hf : ∀ b o, F b o → b < w.heap.size) (hX : ∀ b o, F b o → ¬ X b) : Keeps F w F' w' :=
  ⟨hg.sub, fun b o h => cell_of_block (hg.block b (hf b o h) (hX b o h)) o⟩
theorem own_free (hi : Inv O F0 w0 M F env mem a w) {b o : Nat} (h : F b o) : ¬ Own M mem b := by
  rintro ⟨k, blk, v, h1, h2, h3⟩
  exact ((hi.mm k blk h1).block h2 h3).2.1 o h
end

/-- an iterator: it hands the rows ys to the loop's body, one after the other, till the body says no -/
def Iter (P : Program) (g : Nat) (caps : List DV) (ys : List (List DV)) : Prop :=
  (∀ args w, (callFunc g args).run P w = .ok (.enter g args) w) ∧
  ∀ (F : Frz) (w : World) (vs : List Value), (∀ b o, F b o → b < w.heap.size) → All2 (RF F w) caps vs →
    ∀ (l n : Nat) (J : Nat → Frz → World → Prop) (Jx : World → Prop),
      (∀ i F1 W1 F2 W2, J i F1 W1 → Grow (fun _ => False) F1 W1 F2 W2 → J i F2 W2) →
      (∀ i F1 W1, J i F1 W1 → Keeps F w F1 W1 ∧ ∀ b o, F1 b o → b < W1.heap.size) →
      (∀ i F1 W1 y (args : List Value), J i F1 W1 → ys[i]? = some y → All2 (RF F1 W1) y args → ∀ m, YieldAt Fence.wide m P l args.toArray W1 fun e W' =>
        (e = .returned (.bool true) ∧ ∃ F', J (i + 1) F' W') ∨ (e = .returned (.bool false) ∧ Jx W')) →
      J 0 F w → CallsIn Fence.wide n P g (#[.func (.yield l) #[] #[]] ++ vs.toArray) w fun e W' => (∃ v, e = .returned v) ∧ ((∃ F', J ys.length F' W') ∨ Jx W')

/-- the loop's variables -/
def setPs : List DV → List Nat → List DV → List DV
  | env, p :: ps, y :: ys => setPs (stp env p y) ps ys
  | env, _, _ => env
def setTs : Array Value → List Nat → List Value → Array Value
  | t, p :: ps, y :: ys => setTs (t.setIfInBounds p y) ps ys
  | t, _, _ => t
theorem setTs_list : ∀ (ps : List Nat) (ys : List Value) (t : Array Value), ((ps.zip ys).foldl (fun t x => t.setIfInBounds x.1 x.2) t) = setTs t ps ys
  | [], ys, t => by cases ys <;> rfl
  | p :: ps, [], t => rfl
  | p :: ps, y :: ys, t => setTs_list ps ys (t.setIfInBounds p y)
theorem setTs_eq (ps : List Nat) (ys : List Value) (t : Array Value) : ((ps.toArray.zip ys.toArray).foldl (fun t (p, v) => t.setIfInBounds p v) t) = setTs t ps ys := by
  rw [← Array.foldl_toList, ← setTs_list]
  congr 1
  simp
theorem setPs_ok {O : Nat → Prop} {F0 : Frz} {w0 : World} {M : Hnd} {F : Frz} {mem : Mem} {w : World} {ds : List Deferred} : ∀ (ps : List Nat) (ys : List DV) (vs : List Value) {env : List DV} {t : Array Value}, Inv O F0 w0 M F env mem { tmps := t, defers := ds } w → All2 (RF F w) ys vs →
    Inv O F0 w0 M F (setPs env ps ys) mem { tmps := setTs t ps vs, defers := ds } w
  | [], ys, vs, env, t, hi, h => by cases ys <;> exact hi
  | p :: ps, [], vs, env, t, hi, h => by rw [All2] at h; subst h; exact hi
  | p :: ps, y :: ys, vs, env, t, hi, h => by
    rw [All2] at h
    obtain ⟨v, r, rfl, h1, h2⟩ := h
    exact setPs_ok ps ys r (hi.put p (RV_of_RF h1)) h2
theorem setTs_av {J : List Nat} : ∀ (ps : List Nat) (vs : List Value) (t : Array Value), (ps.all fun p => !J.contains p) = true → ∀ j ∈ J, (setTs t ps vs)[j]? = t[j]?
  | [], vs, t, _, j, _ => by cases vs <;> rfl
  | p :: ps, [], t, _, j, _ => rfl
  | p :: ps, v :: vs, t, h, j, hj => by
    simp only [List.all_cons, Bool.and_eq_true] at h
    have hne : p ≠ j := by
      rintro rfl
      simp at h
      exact h.1 hj
    show (setTs (t.setIfInBounds p v) ps vs)[j]? = t[j]?
    rw [setTs_av ps vs _ h.2 j hj, Array.getElem?_setIfInBounds_ne hne]
/-- a slot outlasts the loop if nothing of its own is in it, or if it is one of J -/
def hOK (J : List Nat) : Nat → List DV → Bool
  | _, [] => true
  | i, d :: r => (isFz d || J.contains i) && hOK J (i + 1) r
theorem hOK_get {J : List Nat} : ∀ {env : List DV} {i : Nat}, hOK J i env = true → ∀ (j : Nat) d, env[j]? = some d → isFz d = true ∨ i + j ∈ J
  | [], i, h, j, d, hj => by simp at hj
  | c :: r, i, h, 0, d, hj => by
    simp only [hOK, Bool.and_eq_true, Bool.or_eq_true] at h
    simp at hj
    subst hj
    exact h.1.imp id (by simp)
  | c :: r, i, h, j + 1, d, hj => by
    simp only [hOK, Bool.and_eq_true] at h
    have := hOK_get h.2 j d (by simpa using hj)
    rw [show i + (j + 1) = i + 1 + j by omega]
    exact this
/-- J's slots read as they did -/
def Jok (J : List Nat) (e e' : List DV) : Prop := ∀ j ∈ J, gt e' j = gt e j
end Go.Proofs.Ythackanfbemabaa.E

set_option linter.unusedSimpArgs false
set_option linter.unusedVariables false
namespace Go.Proofs.Ythackanfbemabaa.E
open Go
def aQ (K : DS → Prop) (e : AE) (s : DS) : Prop :=
  match e with
  | .normal => K s
  | _ => False
/-- the end of a round -/
def bQ (J : List Nat) (e0 : List DV) (I : Mem → Prop) (Ix : Nat → Mem → Prop) (e : AE) (s : DS) : Prop :=
  match e with
  | .normal => Jok J e0 s.env ∧ ∃ ks, I (msort (mdels ks s.mem))
  | .exit id => Jok J e0 s.env ∧ ∃ ks, Ix id (msort (mdels ks s.mem))
  | _ => False
abbrev mark (D : Nat) : Deferred := { target := .collected D, args := #[] }
def Rg (O : Nat → Prop) (F0 : Frz) (w0 : World) (K : DS → Prop) (a : Act) (w : World) : Prop :=
  ∃ s M F D, Inv O F0 w0 M F s.env s.mem (less [] a) w ∧ K s ∧ a.defers = [mark D] ∧ Aside F w0 w D (.deferred (some []))
section
variable {P : Program} {O : Nat → Prop} {F0 : Frz} {w0 : World} {J : List Nat}
theorem env_back {E env4 : List DV} {M1 M4 : Hnd} {F1 F4 : Frz} {m1 mem4 : Mem} {tm : Array Value} {a2 : Act} {X X4 : World} (hE : hOK J 0 E = true) (h1 : Inv O F0 w0 M1 F1 E m1 { tmps := tm, defers := [] } X) (h4 : Inv O F0 w0 M4 F4 env4 mem4 (less [] a2) X4)
    (hk : Keeps F1 X F4 X4) (hJ : Av J tm a2) (hj : Jok J E env4) (ks : List Nat) : Inv O F0 w0 M4 F4 E (msort (mdels ks mem4)) { tmps := tm, defers := [] } X4 := by
  have hm := (mdels_ok ks h4).memCongr (mget_msort _)
  refine ⟨rfl, ?_, hm.mm, hm.dis, hm.grow⟩
  refine All2.of_get h1.ev.length fun j d v e1 e2 => ?_
  have hr : RV M1 F1 X d v := by
    obtain ⟨v', e3, r⟩ := h1.ev.get j d e1
    rw [e2] at e3
    cases e3
    exact r
  by_cases hf : isFz d = true
  · exact (RV_fz hf).2 (RF.mono hk _ _ ((RV_fz hf).1 hr))
  · have hjJ : j ∈ J := by
      rcases hOK_get hE j d e1 with h | h
      · exact absurd h hf
      · simpa using h
    have hg := hj j hjJ
    rw [gt_eq, gt_eq, e1] at hg
    simp only [Option.getD_some] at hg
    cases he : env4[j]? with
    | none =>
      rw [he] at hg
      simp only [Option.getD_none] at hg
      subst hg
      exact absurd rfl hf
    | some d' =>
      rw [he] at hg
      simp only [Option.getD_some] at hg
      subst hg
      obtain ⟨v', e3, r⟩ := h4.ev.get j d' he
      have e4 : a2.tmps[j]? = some v' := by simpa [less] using e3
      rw [hJ j hjJ] at e4
      have e5 : tm[j]? = some v := by simpa using e2
      rw [e5] at e4
      cases e4
      exact r
theorem keeps_put {F : Frz} {w : World} {b : Nat} {o o' : Obj} (h : Aside F w0 w b o) : Keeps F w F (w.putObj b o') :=
  ⟨fun _ _ h => h, fun c i hf => cell_of_block (World.putObj_heap_other (fun e => by subst e; exact h.free i hf)) i⟩
theorem keeps_step {env env' : List DV} {mem mem' : Mem} {M M' : Hnd} {F F' : Frz} {a a' : Act} {w w' : World} (hi : Inv O F0 w0 M F env mem a w) (hs : Inv (Own M mem) F w M' F' env' mem' a' w') : Keeps F w F' w' :=
  hs.grow.keeps hi.grow.fwf fun b o h => own_free hi h

theorem rng_sound {fl : List Nat} {g : Operand} {ps : List Nat} {asg body : Code} {ax : AX} {acA acB : AC} {ts : List Nat} {s : DS} {M : Hnd} {F : Frz} {a : Act} {w : World} {n gf : Nat} {caps : List DV} {ys : List (List DV)}
    (hi : Inv O F0 w0 M F s.env s.mem a w) (hx : trX g = some ax) (hfn : ev s.env ax = .fn gf caps) (hit : Iter P gf caps ys)
    (hA : trCodeF P fl asg = some (strip acA)) (hB : trCodeF P fl body = some (strip acB)) (hcA : calmCode J asg = true) (hcB : calmCode J body = true) (hnA : noDp acA = true) (hnB : noDp acB = true)
    (hps : (ps.all fun p => !J.contains p) = true) (hlen : ∀ y ∈ ys, y.length = ps.length) (hok : hOK J 0 (forgetE ts s.env) = true)
    (I : Nat → Mem → Prop) (Ix : Nat → Mem → Prop) (h0 : I 0 s.mem)
    (hround : ∀ i m y, ys[i]? = some y → I i m → dwp P acA ⟨setPs (forgetE ts s.env) ps y, m⟩ (aQ fun s1 => dwp P acB s1 (bQ J (forgetE ts s.env) (I (i + 1)) Ix)))
    {Q : Exit → Act → World → Prop}
    (hdone : ∀ a' w', Rg O F0 w0 (fun s' => s'.env = forgetE ts s.env ∧ I ys.length s'.mem) a' w' → Q .normal a' w')
    (hexit : ∀ id a' w', Rg O F0 w0 (fun s' => s'.env = forgetE ts s.env ∧ Ix id s'.mem) a' w' → Q (.exit id) a' w') :
    (Code.rangeFunc g ps.toArray asg body).wpIn Fence.wide n P Q a w := by
  refine wpIn_rangeFunc ?_
  intro fn _
  have hv := trX_ok hx hi
  rw [hfn] at hv
  obtain ⟨tm, df⟩ := a
  obtain rfl : df = [] := hi.dl
  have hv : RF F w (.fn gf caps) (Act.eval { tmps := tm, defers := [] } g) := (RV_fz rfl).1 hv
  rw [RF] at hv
  obtain ⟨arr, hev, hcaps⟩ := hv
  have hcaps := RFs_iff.1 hcaps
  have hiE : Inv O F0 w0 M F (forgetE ts s.env) s.mem { tmps := tm, defers := [] } w := hi.weaken (forgetE_ok ts s.env)
  generalize forgetE ts s.env = E at hiE hround hok hdone hexit
  obtain ⟨rec, hrec⟩ : ∃ rec : LoopState → Option Code → Loop, rec = fun st pe => { state := st, pending := pe, fn, tmps := tm, params := ps.toArray, assign := asg, body, defers := w.heap.size } := ⟨_, rfl⟩
  obtain ⟨W1, hW1⟩ : ∃ W1, (w.alloc (.deferred (some []))).alloc (.loop (rec .ready none)) = W1 := ⟨_, rfl⟩
  have hi1 : Inv O F0 w0 M F E s.mem { tmps := tm, defers := [] } W1 := by rw [← hW1]; exact (hiE.alloc _).alloc _
  have hL1 : Aside F w0 W1 (w.heap.size + 1) (.loop (rec .ready none)) := by
    refine ⟨?_, by have := hi.grow.size; omega, fun i hf => ?_, rfl⟩
    · rw [← hW1]
      have := World.alloc_heap_new (w.alloc (.deferred (some []))) (.loop (rec .ready none))
      rwa [World.size_alloc] at this
    · have := hi.grow.fwf _ _ hf
      omega
  have hD1 : Aside F w0 W1 w.heap.size (.deferred (some [])) := by
    refine ⟨?_, hi.grow.size, fun i hf => ?_, rfl⟩
    · rw [← hW1]; exact (heap_alloc_old _ _ (by simp)).trans (World.alloc_heap_new w _)
    · have := hi.grow.fwf _ _ hf
      omega
  have hk1 : Keeps F w F W1 := ⟨fun _ _ h => h, fun b o hf => by
    have := hi.grow.fwf _ _ hf
    rw [← hW1]
    exact cell_of_block ((heap_alloc_old _ _ (by simp; omega)).trans (heap_alloc_old w _ this)) o⟩
  have hne : w.heap.size ≠ w.heap.size + 1 := by omega
  refine ⟨w.heap.size + 1, [mark w.heap.size], W1, { target := .fn (.func gf) arr, args := #[.func (.yield (w.heap.size + 1)) #[] #[]] }, W1, gf,
    #[.func (.yield (w.heap.size + 1)) #[] #[]] ++ arr, W1, ?_, ?_, fun _ _ => trivial, ?_, fun e => Bool.noConfusion (show false = true from e), ?_⟩
  · rw [← hW1, hrec]; exact run_enterLoop_outer _ _ _ _ _
  · simp only [resolve, hev]
    simp [go_sem]
  · simp [invoke, go_sem, hit.1]
  have hcall := hit.2 F W1 arr.toList hi1.grow.fwf (hcaps.mono fun d v h => RF.mono hk1 d v h) (w.heap.size + 1) (n - 1)
    (fun i F1 X => ∃ M1 m1, Inv O F0 w0 M1 F1 E m1 { tmps := tm, defers := [] } X ∧ I i m1 ∧ Keeps F W1 F1 X ∧ Aside F1 w0 X (w.heap.size + 1) (.loop (rec .ready none)) ∧ Aside F1 w0 X w.heap.size (.deferred (some [])))
    (fun X => ∃ F1 M1 m1 id, Inv O F0 w0 M1 F1 E m1 { tmps := tm, defers := [] } X ∧ Ix id m1 ∧ Aside F1 w0 X (w.heap.size + 1) (.loop (rec .done (some (.exit id)))) ∧ Aside F1 w0 X w.heap.size (.deferred (some [])))
    ?_ ?_ ?_ ⟨M, s.mem, hi1, h0, Keeps.refl F W1, hL1, hD1⟩
  · simp only [Array.toArray_toList] at hcall
    refine hcall.mono ?_
    rintro e X ⟨⟨v, rfl⟩, ⟨F1, M1, m1, h1, h2, h3, h4, h5⟩ | ⟨F1, M1, m1, id, h1, h2, h4, h5⟩⟩
    · have hend := run_endLoop (P := P) h4.here (by rw [hrec]; simp)
      rw [hrec] at hend
      exact ⟨_, _, hend, hdone _ _ ⟨⟨E, m1⟩, M1, F1, w.heap.size, h1.turn h4 _, ⟨rfl, h2⟩, rfl, h5.other hne⟩⟩
    · have hend := run_endLoop (P := P) h4.here (by rw [hrec]; simp)
      rw [hrec] at hend
      exact ⟨_, _, hend, wpIn_exit (hexit id _ _ ⟨⟨E, m1⟩, M1, F1, w.heap.size, h1.turn h4 _, ⟨rfl, h2⟩, rfl, h5.other hne⟩)⟩
  · rintro i F1 X F2 X2 ⟨M1, m1, h1, h2, h3, h4, h5⟩ hg
    exact ⟨M1, m1, h1.calm hg, h2, h3.trans (hg.keeps h1.grow.fwf fun _ _ _ h => h), h4.grow hg, h5.grow hg⟩
  · rintro i F1 X ⟨M1, m1, h1, h2, h3, h4, h5⟩
    exact ⟨h3, h1.grow.fwf⟩
  · rintro i F1 X y args ⟨M1, m1, h1, h2, h3, h4, h5⟩ hy hargs m
    have hsz : args.length = ps.length := by rw [hargs.length]; exact hlen y (List.mem_of_getElem? hy)
    have hyl := run_yield (P := P) (args := args.toArray) h4.here (by rw [hrec]; simpa using hsz)
    rw [hrec] at hyl
    simp only [setTs_eq] at hyl
    refine ⟨fn, _, asg, body, hyl, roundIn_of_wpIn trivial ?_⟩
    clear hyl
    have hs := setPs_ok ps y args h1 hargs
    show asg.wpIn (Gf (some (w.heap.size + 1))) m P _ _ _
    refine wpIn_mono (dwpX_sound (ro := some (w.heap.size + 1)) (n := m) (J := J) (t0 := tm) (ds := []) acA hnA hA hcA (pre := []) rfl (fun j hj => setTs_av ps args tm hps j hj) hs.rebase (hround i m1 y hy h2)) ?_
    intro e a1 X2 hq
    cases e with
    | normal =>
      obtain ⟨pre, hd, hJ1, s1, M2, F2, hi2, hK2⟩ := hq
      obtain rfl : pre = [] := hi2.dl
      have h42 := h4.step hs hi2
      have h52 := h5.step hs hi2
      have hu2 := unbase hs hi2
      refine ⟨_, run_beginRound h42.here (by rw [hrec]), ?_⟩
      have hu3 := hu2.turn h42 (.loop { rec .ready none with state := .busy })
      have h43 : Aside F2 w0 (X2.putObj (w.heap.size + 1) (.loop { rec .ready none with state := .busy })) (w.heap.size + 1) (.loop { rec .ready none with state := .busy }) := h42.turn rfl
      have h53 : Aside F2 w0 (X2.putObj (w.heap.size + 1) (.loop { rec .ready none with state := .busy })) w.heap.size (.deferred (some [])) := h52.other hne
      have hk3 : Keeps F1 X F2 (X2.putObj (w.heap.size + 1) (.loop { rec .ready none with state := .busy })) := (keeps_step hs hi2).trans (keeps_put h42)
      show body.wpIn (Gf (some (w.heap.size + 1))) m P _ _ _
      refine wpIn_mono (dwpX_sound (ro := some (w.heap.size + 1)) (n := m) (J := J) (t0 := tm) (ds := []) acB hnB hB hcB (pre := []) hd hJ1 hu3.rebase (show dwp P acB s1 _ from hK2)) ?_
      intro e2 a2 X4 hq2
      have fin : ∀ (K : DS → Prop), Fr J tm [] (Gd (Own M2 s1.mem) F2 (X2.putObj (w.heap.size + 1) (.loop { rec .ready none with state := .busy })) K) a2 X4 → (∀ s2, K s2 → Jok J E s2.env) → ∃ s2 M4 F4, K s2 ∧ (∀ ks, Inv O F0 w0 M4 F4 E (msort (mdels ks s2.mem)) { tmps := tm, defers := [] } X4) ∧ Keeps F1 X F4 X4 ∧
          Aside F4 w0 X4 (w.heap.size + 1) (.loop { rec .ready none with state := .busy }) ∧ Aside F4 w0 X4 w.heap.size (.deferred (some [])) := by
        rintro K ⟨pre, hd2, hJ2, s2, M4, F4, hi4, hK4⟩ hjk
        obtain rfl : pre = [] := hi4.dl
        have hk4 := hk3.trans (keeps_step hu3 hi4)
        exact ⟨s2, M4, F4, hK4, fun ks => env_back hok h1 (unbase hu3 hi4) hk4 hJ2 (hjk s2 hK4) ks, hk4, h43.step hu3 hi4, h53.step hu3 hi4⟩
      cases e2 with
      | normal =>
        obtain ⟨s2, M4, F4, ⟨hj, ks, hI⟩, g1, g2, g3, g4⟩ := fin _ hq2 fun _ h => h.1
        have hend := run_endRound (P := P) none g3.here
        rw [hrec] at hend
        refine ⟨_, _, hend, .inl ⟨rfl, F4, M4, _, (g1 ks).turn g3 _, hI, h3.trans (g2.trans (keeps_put g3)), ?_, g4.other hne⟩⟩
        have := g3.turn (o' := .loop (rec .ready none)) rfl
        rw [hrec] at this ⊢
        exact this
      | exit id =>
        obtain ⟨s2, M4, F4, ⟨hj, ks, hI⟩, g1, g2, g3, g4⟩ := fin _ hq2 fun _ h => h.1
        have hend := run_endRound (P := P) (some (.exit id)) g3.here
        rw [hrec] at hend
        refine ⟨_, _, hend, .inr ⟨rfl, F4, M4, _, id, (g1 ks).turn g3 _, hI, ?_, g4.other hne⟩⟩
        have := g3.turn (o' := .loop (rec .done (some (.exit id)))) rfl
        rw [hrec] at this ⊢
        exact this
      | ret => obtain ⟨_, _, _, _, _, _, _, h⟩ := hq2; exact h.elim
      | panic ch => obtain ⟨_, _, _, _, _, _, _, _, _, _, _, h⟩ := hq2; exact h.elim
      | _ => obtain ⟨_, _, _, h⟩ := hq2; exact h.elim
    | ret => obtain ⟨_, _, _, _, _, _, _, h⟩ := hq; exact h.elim
    | exit id => obtain ⟨_, _, _, _, _, _, _, h⟩ := hq; exact h.elim
    | panic ch => obtain ⟨_, _, _, _, _, _, _, _, _, _, _, h⟩ := hq; exact h.elim
    | _ => obtain ⟨_, _, _, h⟩ := hq; exact h.elim
end
end Go.Proofs.Ythackanfbemabaa.E

set_option linter.unusedSimpArgs false
set_option linter.unusedVariables false
namespace Go.Proofs.Ythackanfbemabaa.E
open Go
theorem aQ_n {K : DS → Prop} {s : DS} : aQ K .normal s = K s := rfl
theorem bQ_n {J : List Nat} {e0 : List DV} {I : Mem → Prop} {Ix : Nat → Mem → Prop} {s : DS} : bQ J e0 I Ix .normal s = (Jok J e0 s.env ∧ ∃ ks, I (msort (mdels ks s.mem))) := rfl
theorem bQ_x {J : List Nat} {e0 : List DV} {I : Mem → Prop} {Ix : Nat → Mem → Prop} {id : Nat} {s : DS} : bQ J e0 I Ix (.exit id) s = (Jok J e0 s.env ∧ ∃ ks, Ix id (msort (mdels ks s.mem))) := rfl
def plug : List Code → Code → Code
  | [], c => c
  | p :: l, c => .seq p (plug l c)
/-- one part of the code behind the other -/
def preK (P : Program) : List AC → (DS → Prop) → DS → Prop
  | [], K, s => K s
  | ac :: l, K, s => dwp P ac s (aQ (preK P l K))
section
variable {P : Program} {O : Nat → Prop} {F0 : Frz} {w0 : World} {n : Nat}
theorem pre_sound {fl : List Nat} {K : DS → Prop} {c : Code} {Q : Exit → Act → World → Prop} (hc : ∀ (s : DS) (M : Hnd) (F : Frz) (a : Act) (w : World), Inv O F0 w0 M F s.env s.mem a w → K s → c.wpIn Fence.wide n P Q a w) :
    ∀ (l : List (Code × AC)) (s : DS) (M : Hnd) (F : Frz) (a : Act) (w : World), (∀ p ∈ l, trCodeF P fl p.1 = some (strip p.2)) → Inv O F0 w0 M F s.env s.mem a w → preK P (l.map (·.2)) K s → (plug (l.map (·.1)) c).wpIn Fence.wide n P Q a w
  | [], s, M, F, a, w, _, hi, hK => hc s M F a w hi hK
  | (c1, ac) :: l, s, M, F, a, w, h, hi, hK => by
    have hK : dwp P ac s (aQ (preK P (l.map (·.2)) K)) := hK
    refine wpIn_seq (wpIn_mono (wpIn_wide.2 (dwp_sound ac (h (c1, ac) (by simp)) hi hK)) fun e a1 w1 hq => ?_)
    cases e with
    | normal =>
      obtain ⟨s1, M1, F1, hi1, hK1⟩ := hq
      exact pre_sound hc l s1 M1 F1 a1 w1 (fun p hp => h p (by simp [hp])) hi1 hK1
    | ret => obtain ⟨_, _, _, _, h⟩ := hq; exact h.elim
    | exit id => obtain ⟨_, _, _, _, h⟩ := hq; exact h.elim
    | panic ch => obtain ⟨_, _, _, _, _, _, _, _, h⟩ := hq; exact h.elim
    | _ => exact hq.elim
/-- what is asked where the statement begins -/
def RngK (P : Program) (J ts ps : List Nat) (ax : AX) (acA acB : AC) (bid : Nat) (Post : DS → Prop) (s : DS) : Prop :=
  ∃ (gf : Nat) (caps : List DV) (ys : List (List DV)) (I : Nat → Mem → Prop) (Ix : Nat → Mem → Prop), ev s.env ax = .fn gf caps ∧ Iter P gf caps ys ∧ (∀ y ∈ ys, y.length = ps.length) ∧ hOK J 0 (forgetE ts s.env) = true ∧ I 0 s.mem ∧
    (∀ i m y, ys[i]? = some y → I i m → dwp P acA ⟨setPs (forgetE ts s.env) ps y, m⟩ (aQ fun s1 => dwp P acB s1 (bQ J (forgetE ts s.env) (I (i + 1)) Ix))) ∧
    (∀ m, I ys.length m → Post ⟨forgetE ts s.env, m⟩) ∧ (∀ id m, Ix id m → id = bid ∧ Post ⟨forgetE ts s.env, m⟩)
theorem rng_body {fl : List Nat} {g : Operand} {ps J ts : List Nat} {asg body cC : Code} {ax : AX} {acA acB : AC} {bid : Nat} {pres : List (Code × AC)} {q : Code} {acq : AC} {Post : DS → Prop} {s : DS} {M : Hnd} {F : Frz} {a : Act} {w : World} {Q : Exit → Act → World → Prop}
    (hi : Inv O F0 w0 M F s.env s.mem a w) (hp : ∀ p ∈ pres, trCodeF P fl p.1 = some (strip p.2)) (hq : trCodeF P fl q = some (strip acq)) (hx : trX g = some ax)
    (hA : trCodeF P fl asg = some (strip acA)) (hB : trCodeF P fl body = some (strip acB)) (hcA : calmCode J asg = true) (hcB : calmCode J body = true) (hnA : noDp acA = true) (hnB : noDp acB = true) (hps : (ps.all fun p => !J.contains p) = true)
    (hK : preK P (pres.map (·.2)) (fun s1 => dwp P acq s1 (aQ (RngK P J ts ps ax acA acB bid Post))) s)
    (hC : ∀ a' w', Rg O F0 w0 Post a' w' → cC.wpIn Fence.wide n P Q a' w') :
    (plug (pres.map (·.1)) (.seq (.seq q (.block bid (.rangeFunc g ps.toArray asg body))) cC)).wpIn Fence.wide n P Q a w := by
  refine pre_sound (K := fun s1 => dwp P acq s1 (aQ (RngK P J ts ps ax acA acB bid Post))) ?_ pres s M F a w hp hi hK
  intro s1 M1 F1 a1 w1 hi1 hK1
  refine wpIn_seq (wpIn_seq (wpIn_mono (wpIn_wide.2 (dwp_sound acq hq hi1 hK1)) fun e a2 w2 hq2 => ?_))
  cases e with
  | normal =>
    obtain ⟨s2, M2, F2, hi2, gf, caps, ys, I, Ix, g1, g2, g3, g4, g5, g6, g7, g8⟩ := hq2
    refine wpIn_block (rng_sound hi2 hx g1 g2 hA hB hcA hcB hnA hnB hps g3 g4 I Ix g5 g6 ?_ ?_)
    · rintro a' w' ⟨s', M', F', D, h1, ⟨h2, h3⟩, h4, h5⟩
      exact hC a' w' ⟨s', M', F', D, h1, by have := g7 _ h3; rw [← h2] at this; exact this, h4, h5⟩
    · rintro id a' w' ⟨s', M', F', D, h1, ⟨h2, h3⟩, h4, h5⟩
      obtain ⟨rfl, h6⟩ := g8 id _ h3
      simp only [Exit.inBlock, if_true]
      exact hC a' w' ⟨s', M', F', D, h1, by rw [← h2] at h6; exact h6, h4, h5⟩
  | ret => obtain ⟨_, _, _, _, h⟩ := hq2; exact h.elim
  | exit id => obtain ⟨_, _, _, _, h⟩ := hq2; exact h.elim
  | panic ch => obtain ⟨_, _, _, _, _, _, _, _, h⟩ := hq2; exact h.elim
  | _ => exact hq2.elim
/-- what follows the statement -/
theorem rg_cont {fl : List Nat} {c : Code} {ac : AC} {K : DS → Prop} {Q : AE → DS → Prop} {a : Act} {w : World} (h : Rg O F0 w0 K a w) (hn : noDp ac = true) (hc : trCodeF P fl c = some (strip ac)) (hm : calmCode [] c = true) (hK : ∀ s, K s → dwp P ac s Q) {R : Exit → Act → World → Prop}
    (h1 : ∀ a w, Rg O F0 w0 (Q .normal) a w → R .normal a w) (h2 : ∀ a w, Rg O F0 w0 (Q .ret) a w → R .ret a w) (h3 : ∀ id a w, Rg O F0 w0 (Q (.exit id)) a w → R (.exit id) a w) (h4 : ∀ d s, ¬ Q (.pan d) s) : c.wpIn Fence.wide n P R a w := by
  obtain ⟨s, M, F, D, hi, hk, hd, hD⟩ := h
  show c.wpIn (Gf none) n P R a w
  refine wpIn_mono (dwpX_sound (ro := none) (n := n) (J := []) (t0 := a.tmps) (ds := [mark D]) ac hn hc hm (pre := []) hd (fun j hj => by simp at hj) hi.rebase (hK s hk)) fun e a' w' hq => ?_
  have fin : ∀ K' : DS → Prop, Fr [] a.tmps [mark D] (Gd (Own M s.mem) F w K') a' w' → Rg O F0 w0 K' a' w' := by
    rintro K' ⟨pre, hd', _, s', M', F', hi', hk'⟩
    obtain rfl : pre = [] := hi'.dl
    exact ⟨s', M', F', D, unbase hi hi', hk', hd', hD.step hi hi'⟩
  cases e with
  | normal => exact h1 _ _ (fin _ hq)
  | ret => exact h2 _ _ (fin _ hq)
  | exit id => exact h3 _ _ _ (fin _ hq)
  | panic ch => obtain ⟨_, _, _, _, _, _, _, _, _, _, _, h⟩ := hq; exact (h4 _ _ h).elim
  | _ => obtain ⟨_, _, _, h⟩ := hq; exact h.elim
theorem qret_pan {ars : List AR} {r : RK} (d : DV) (s : DS) : ¬ Qret ars r (.pan d) s := fun h => h
/-- leaving with the mark -/
theorem rg_leave {fn : Func} {ars : List AR} {r : RK} {R : Ending → World → Prop} {a : Act} {w : World} (h : Rg O F0 w0 (kRet ars r) a w) (hr : trRes P fn.results.toList = some ars)
    (hR : ∀ w' v' F', Grow O F0 w0 F' w' → ResOK F' w' (Nw O w0) r v' → R (.returned v') w') : LeavesInM Fence.wide n P fn a.tmps R a.defers .returning w := by
  obtain ⟨s, M, F, D, hi, hk, hd, hD⟩ := h
  rw [hd]
  refine ⟨by simp, .inl ⟨D, _, rfl, run_takeDeferred hD.here, ?_⟩⟩
  obtain ⟨v, F', h1, h2, h3⟩ := ret_ok (hi.turn hD (.deferred none)) hr hk
  exact ⟨v, h1, hR _ v F' h2 h3⟩
end
theorem spec_rng {P : Program} {fl : List Nat} {f : Nat} {fn : Func} {as : List RK} {ars : List AR} {r : RK} {k : Nat} {g : Operand} {ps J ts : List Nat} {q asg body cC : Code} {ax : AX} {acq acA acB acC : AC} {bid : Nat} (pres : List (Code × AC))
    (hf : P.funcs[f]? = some fn) (hn : (fn.name == "runtime.NumGoroutine") = false) (hb : fn.body = some (plug (pres.map (·.1)) (.seq (.seq q (.block bid (.rangeFunc g ps.toArray asg body))) cC))) (hnt : fn.ntmps = k + as.length)
    (hr : trRes P fn.results.toList = some ars) (hp : ∀ p ∈ pres, trCodeF P fl p.1 = some (strip p.2)) (hq : trCodeF P fl q = some (strip acq)) (hx : trX g = some ax)
    (hA : trCodeF P fl asg = some (strip acA)) (hB : trCodeF P fl body = some (strip acB)) (hcA : calmCode J asg = true) (hcB : calmCode J body = true) (hnA : noDp acA = true) (hnB : noDp acB = true) (hps : (ps.all fun p => !J.contains p) = true)
    (hC : trCodeF P fl cC = some (strip acC)) (hmC : calmCode [] cC = true) (hnC : noDp acC = true)
    (h : preK P (pres.map (·.2)) (fun s1 => dwp P acq s1 (aQ (RngK P J ts ps ax acA acB bid fun s2 => dwp P acC s2 (Qret ars r)))) ⟨argE 0 as ++ List.replicate k .any, argM 0 as⟩) : Spec P f as r := by
  refine ⟨by unfold callable; rw [hf]; simp [hb, hn], ?_⟩
  intro F w vs hfwf hargs hdis
  obtain ⟨M, hi⟩ := entry_ok hnt hfwf hargs hdis
  refine (callsIn_wide (n := 1)).1 (callsIn_of_wp_marks hf hb trivial (rng_body hi hp hq hx hA hB hcA hcB hnA hnB hps h ?_) rfl)
  intro a' w' hg
  refine rg_cont hg hnC hC hmC (fun s hs => hs) ?_ ?_ ?_ qret_pan
  · intro a w h
    exact rg_leave h hr fun w' v' F' h1 h2 => ⟨v', F', rfl, h1, h2⟩
  · intro a w h
    exact rg_leave h hr fun w' v' F' h1 h2 => ⟨v', F', rfl, h1, h2⟩
  · rintro id a w ⟨_, _, _, _, _, h, _⟩
    exact h.elim
end Go.Proofs.Ythackanfbemabaa.E

set_option linter.unusedSimpArgs false
set_option linter.unusedVariables false
namespace Go.Proofs.Ythackanfbemabaa.E
open Go
section
variable {P : Program} {ro : Option Nat} {n : Nat} {J : List Nat}
theorem opIn_end {F : Fence} {o : Oper} {a : Act} {w : World} {K : Act → World → Prop} {Q Q' : Exit → Act → World → Prop} (hf : ∀ e a w, ¬ Q e a w) (h : o.wpIn F n P a w K Q) : o.wpIn F n P a w K Q' := by
  refine ⟨h.1, ?_⟩
  have hh := h.2
  generalize (o.semAt F.round a.eval).run P w = r at hh ⊢
  cases r with
  | ok x w' =>
    cases x <;> simp only [Oper.uponIn] at hh ⊢ <;> first
      | exact hh
      | exact ⟨hh.1, CallsIn.mono hh.2 (fun e w'' he => by
          cases e with
          | returned v => exact he
          | panicked c => exact (hf _ _ _ he).elim
          | outgrown => obtain ⟨_, _, he⟩ := he; exact (hf _ _ _ he).elim)⟩
      | exact ⟨hh.1, RoundIn.mono hh.2 (fun e w'' he => by
          cases e with
          | returned v => exact he
          | panicked c => exact (hf _ _ _ he).elim
          | outgrown => obtain ⟨_, _, he⟩ := he; exact (hf _ _ _ he).elim)⟩
  | halt x w' => cases x <;> simp only [Oper.uponIn] at hh ⊢ <;> first | exact hh | exact (hf _ _ _ hh).elim
theorem opIn_of_wp {o : Oper} {a : Act} {w : World} {t0 : Array Value} {ds pre : List Deferred} {K : Act → World → Prop} {Q : Exit → Act → World → Prop} (hc : calmOp J o = true) (hd : a.defers = pre ++ ds) (hJ : Av J t0 a)
    (h : o.wp P (less pre a) w K (fun _ _ _ => False)) : o.wpIn (Gf ro) n P a w (Fr J t0 ds K) Q :=
  opIn_end (Q := FrQ J t0 ds fun _ _ _ => False) (fun e a w h => by obtain ⟨_, _, _, h⟩ := h; exact h) (op_frame hc hd hJ (fun _ _ h => h) h)
/-- an operation that yields a value -/
theorem opIn_val {o : Oper} {a : Act} {w w' : World} {v : Value} {K : Act → World → Prop} {Q : Exit → Act → World → Prop} (hn : ∀ c, o.op ≠ .defer c) (hr : (execOp a.eval o).run P w = .ok (.value v) w') (h : K (a.put o.dst v) w') : o.wpIn (Gf ro) n P a w K Q := by
  refine ⟨fun _ _ => trivial, ?_⟩
  rw [show Oper.semAt (Gf ro).round a.eval o = execOp a.eval o from Oper.semAt_eq _ _ _ hn, hr]
  exact h
variable {O : Nat → Prop} {F0 : Frz} {w0 : World}
/-- the rest of a region -/
theorem opsX_tail {ops : Array Oper} {l : List Oper} {k : Nat} {al : List AOper} {s : DS} {M : Hnd} {F : Frz} {a : Act} {w : World} {t0 : Array Value} {ds pre : List Deferred} {K : DS → Prop} (hl : ∀ j, l[j]? = ops[k + j]?) (htr : trOpers P ops l = some (stripL al)) (hc : calmOps J ops = true)
    (hd : a.defers = pre ++ ds) (hJ : Av J t0 a) (hi : Inv O F0 w0 M F s.env s.mem (less pre a) w) (hK : dOps P al s K) : wpOpsIn (Gf ro) n P ops (FrQ J t0 ds fun e a' w' => e = .normal ∧ Gd O F0 w0 K a' w') (List.range' k l.length) a w := by
  refine ops_frame hc (fun a w h => by cases h.1) _ pre a w hd hJ ?_
  rw [wpOps_eq_wpList l k hl]
  exact dOps_sound htr hi hK fun a w hg => ⟨rfl, hg⟩
theorem wpOpsIn_mono {F : Fence} {ops : Array Oper} {Q Q' : Exit → Act → World → Prop} (hq : ∀ e a w, Q e a w → Q' e a w) : ∀ (l : List Nat) (a : Act) (w : World), wpOpsIn F n P ops Q l a w → wpOpsIn F n P ops Q' l a w
  | [], a, w, h => hq _ _ _ h
  | i :: l, a, w, h => by
    unfold wpOpsIn at h ⊢
    split
    · rename_i ho
      simp only [ho] at h
      exact wpOpsIn_mono hq l a w h
    · rename_i o ho
      simp only [ho] at h
      split
      · rename_i hw
        rw [if_pos hw] at h
        refine Oper.wpIn_mono (fun a' w' hh => wpOpsIn_mono hq l a' w' hh) ?_
        refine ⟨h.1, ?_⟩
        have hh := h.2
        generalize (o.semAt F.round a.eval).run P w = r at hh ⊢
        cases r with
        | ok x w' =>
          cases x <;> simp only [Oper.uponIn] at hh ⊢ <;> first
            | exact hh
            | exact ⟨hh.1, CallsIn.mono hh.2 (fun e w'' he => by
                cases e with
                | returned v => exact he
                | panicked c => exact hq _ _ _ he
                | outgrown => obtain ⟨a1, w1, he⟩ := he; exact ⟨a1, w1, hq _ _ _ he⟩)⟩
            | exact ⟨hh.1, RoundIn.mono hh.2 (fun e w'' he => by
                cases e with
                | returned v => exact he
                | panicked c => exact hq _ _ _ he
                | outgrown => obtain ⟨a1, w1, he⟩ := he; exact ⟨a1, w1, hq _ _ _ he⟩)⟩
        | halt x w' => cases x <;> simp only [Oper.uponIn] at hh ⊢ <;> first | exact hh | exact hq _ _ _ hh
      · rename_i hw
        rw [if_neg hw] at h
        exact ⟨h.1, wpOpsIn_mono hq l _ w h.2⟩
/-- nothing of its own is left: whatever lay there lies as it lay -/
theorem same_of_bare {M M' : Hnd} {F F' : Frz} {env' : List DV} {mem' : Mem} {a' : Act} {w w' : World} (h : Inv (Own M []) F w M' F' env' mem' a' w') {b : Nat} (hb : b < w.heap.size) : w'.heap[b]? = w.heap[b]? :=
  h.grow.block b hb (by rintro ⟨k, blk, v, h1, _⟩; simp [mget] at h1)
end
end Go.Proofs.Ythackanfbemabaa.E
