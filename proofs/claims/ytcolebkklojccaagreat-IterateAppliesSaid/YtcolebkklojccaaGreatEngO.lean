/-
  The engine, part O: whatever order is drawn.
-/
import Derived.Test.YtcolebkklojccaaGreatEngR
set_option linter.unusedVariables false
set_option linter.unusedSimpArgs false
set_option linter.unusedSimpArgs false
set_option linter.unusedVariables false
namespace Go.Proofs.YtcolebkklojccaaGreat.E
open Go

section
variable {P : Program} {O : Nat → Prop} {F0 : Frz} {w0 : World} {M : Hnd} {F F' : Frz} {a : Act} {w w' w'' : World} {s : DS} {K : DS → Prop} {Q : Exit → Act → World → Prop} {o : Oper} {ops : Array Oper}

def xOp (P : Program) (ops : Array Oper) (Q : Exit → Act → World → Prop) (F : Frz) (e : Nat → Bool) (i : Nat) (K : Act → World → Prop) (a : Act) (w : World) : Prop :=
  wpOp P ops Q i (fun a' w' => Stb (!e i) F w w' ∧ K a' w') a w
def wpAnyX (P : Program) (ops : Array Oper) (Qf : Nat → Exit → Act → World → Prop) (N : Act → World → Prop) (F : Frz) (e : Nat → Bool) : Nat → Array Bool → Act → World → Prop
  | 0, listed, a, w => Region.ready .any ops listed = [] ∧ N a w
  | fuel + 1, listed, a, w => (Region.ready .any ops listed = [] → N a w) ∧
    ∀ i ∈ Region.ready .any ops listed, xOp P ops (Qf i) F e i (wpAnyX P ops Qf N F e fuel (listed.setIfInBounds i true)) a w
/-- what is asked where an operation does not come back may be weakened -/
theorem Oper.wp_end {Q Q' : Exit → Act → World → Prop} (h1 : ∀ c a w, Q (.panic c) a w → Q' (.panic c) a w) (h2 : LetsOut Q → LetsOut Q') {R : Act → World → Prop} (h : o.wp P a w R Q) : o.wp P a w R Q' := by
  unfold Oper.wp at *
  generalize (execOp a.eval o).run P w = r at *
  cases r with
  | ok n w' =>
    cases n <;> simp only [Oper.upon] at h ⊢ <;> try exact h
    case enter f args =>
      refine Calls.mono h fun e' w'' he => ?_
      cases e' with
      | returned u => exact he
      | panicked c => exact h1 _ _ _ he
      | outgrown => exact h2 he
  | halt x w' =>
    cases x <;> simp only [Oper.upon] at h ⊢ <;> try exact h
    case panic u => exact h1 _ _ _ h
theorem wpOp_end {Q Q' : Exit → Act → World → Prop} (h1 : ∀ c a w, Q (.panic c) a w → Q' (.panic c) a w) (h2 : LetsOut Q → LetsOut Q') {i : Nat} {R : Act → World → Prop} (h : wpOp P ops Q i R a w) : wpOp P ops Q' i R a w := by
  unfold wpOp at *
  split at h
  · exact h
  · rename_i o ho
    split
    · rename_i hw
      simp only [hw, if_true] at h
      rcases h with h | ⟨g, hl⟩
      · exact .inl (Oper.wp_end h1 h2 h)
      · exact .inr ⟨g, h2 hl⟩
    · rename_i hw
      simp only [hw] at h
      exact h
theorem wpAny_of_X {e : Nat → Bool} {Qf : Nat → Exit → Act → World → Prop} {N : Act → World → Prop} (hN : ∀ a w, N a w → Q .normal a w) (h1 : ∀ i c a w, Qf i (.panic c) a w → Q (.panic c) a w) (h2 : ∀ i, LetsOut (Qf i) → LetsOut Q) : ∀ (fuel : Nat) (listed : Array Bool) (a : Act) (w : World), wpAnyX P ops Qf N F e fuel listed a w → wpAny P .any ops Q fuel listed a w
  | 0, _, _, _, h => ⟨h.1, hN _ _ h.2⟩
  | fuel + 1, _, _, _, h => ⟨fun hh => hN _ _ (h.1 hh), fun i hi => wpOp_end (h1 i) (h2 i) (wpOp_mono (fun a' w' hh => wpAny_of_X hN h1 h2 fuel _ a' w' hh.2) (h.2 i hi))⟩
theorem wpAnyX_mono {e : Nat → Bool} {Qf : Nat → Exit → Act → World → Prop} {N : Act → World → Prop} (hF : ∀ b o, F b o → F' b o) : ∀ (fuel : Nat) (listed : Array Bool) (a : Act) (w : World), wpAnyX P ops Qf N F' e fuel listed a w → wpAnyX P ops Qf N F e fuel listed a w
  | 0, _, _, _, h => h
  | fuel + 1, _, _, _, h => ⟨h.1, fun i hi => wpOp_mono (fun a' w' hh => ⟨hh.1.mono hF, wpAnyX_mono hF fuel _ a' w' hh.2⟩) (h.2 i hi)⟩

/-- the operation yields v, here and in the worlds that may come before it is its turn -/
def YX (P : Program) (ops : Array Oper) (st : Bool) (F : Frz) (o : Oper) (v : Value) (a : Act) (w : World) : Prop :=
  (Region.wanted o (yielded ops a.tmps) = true ∧ ∀ w', Stb st F w w' → (execOp a.eval o).run P w' = .ok (.value v) w') ∨ (Region.wanted o (yielded ops a.tmps) = false ∧ v = undef)
theorem YX.step {st e : Bool} {v : Value} (h : YX P ops st F o v a w) (hs : Stb (!e) F w w') (hst : st = true ∨ e = true) : YX P ops st F o v a w' := by
  rcases h with ⟨h1, h2⟩ | h
  · exact .inl ⟨h1, fun w'' hw => h2 w'' (hs.trans hw (hst.imp id (by simp)))⟩
  · exact .inr h
theorem YX.same {st : Bool} {v : Value} {a' : Act} (h : YX P ops st F o v a w) (he : execOp a'.eval o = execOp a.eval o) (hw : Region.wanted o (yielded ops a'.tmps) = Region.wanted o (yielded ops a.tmps)) : YX P ops st F o v a' w := by
  unfold YX at *
  rw [he, hw]
  exact h
theorem YX.op {st : Bool} {e : Nat → Bool} {i : Nat} {v : Value} (hi : ops[i]? = some o) (h : YX P ops st F o v a w) {K : Act → World → Prop} (hK : K (a.put o.dst v) w) : xOp P ops Q F e i K a w := by
  unfold xOp wpOp
  simp only [hi]
  rcases h with ⟨h1, h2⟩ | ⟨h1, rfl⟩
  · simp only [h1, if_true, Oper.wp, h2 w (Stb.refl _ _ _), Oper.upon]
    exact .inl ⟨Stb.refl _ _ _, hK⟩
  · simp only [h1, Bool.false_eq_true, if_false]
    exact ⟨Stb.refl _ _ _, hK⟩
theorem xOp_put {st : Bool} {e : Nat → Bool} {j : Nat} {oi oj : Oper} {v : Value} (hj : ops[j]? = some oj) (hap : oi.apart ops oj = true) (hsi : ∀ cs b, oi.op ≠ .select cs b) (hsj : ∀ cs b, oj.op ≠ .select cs b)
    (hnp : ∀ c a w, ¬ Q (.panic c) a w) (hno : ¬ LetsOut Q) (hst : st = true ∨ e j = true) {K : Act → World → Prop} (hy : YX P ops st F oi v a w) (h : xOp P ops Q F e j K (a.put oi.dst v) w) :
    xOp P ops Q F e j (fun a' w' => YX P ops st F oi v a' w' ∧ K (a'.put oi.dst v) w') a w := by
  obtain ⟨h1, h2, h3⟩ := Oper.apart_spec hap
  have keep : ∀ (a : Act) (w : World), YX P ops st F oi v a w → ∀ u, YX P ops st F oi v (a.put oj.dst u) w := fun a w hy u =>
    hy.same (execOp_put oi hsi a oj.dst u h3) (wanted_put oi a oj.dst u h3)
  have keepD : ∀ d, YX P ops st F oi v { a with defers := d :: a.defers } w := fun d => hy.same rfl rfl
  unfold xOp wpOp at *
  simp only [hj] at *
  rw [wanted_put oj a oi.dst v h1] at h
  split
  · rename_i hw
    simp only [hw, if_true] at h
    rcases h with h | ⟨_, hlets⟩
    case inr => exact absurd hlets hno
    refine .inl ?_
    unfold Oper.wp at *
    rw [execOp_put oj hsj a oi.dst v h1] at h
    generalize (execOp a.eval oj).run P w = r at *
    cases r with
    | ok n w' =>
      cases n <;> simp only [Oper.upon] at h ⊢
      case value u => exact ⟨h.1, keep a w' (hy.step h.1 hst) u, by rw [← Act.put_comm a v u h2]; exact h.2⟩
      case skip => exact ⟨h.1, keep a w' (hy.step h.1 hst) _, by rw [← Act.put_comm a v undef h2]; exact h.2⟩
      case defer d =>
        refine ⟨h.1, keep _ w' ((keepD d).step h.1 hst) _, ?_⟩
        rw [← Act.put_comm _ v undef h2, ← Act.put_defers]
        exact h.2
      case enter f args =>
        refine Calls.mono h fun e' w'' he => ?_
        cases e' with
        | returned u => exact ⟨he.1, keep a w'' (hy.step he.1 hst) u, by rw [← Act.put_comm a v u h2]; exact he.2⟩
        | panicked c => exact absurd he (hnp _ _ _)
        | outgrown => exact absurd he hno
      case row row args => exact Rows.mono h fun u w'' he => ⟨he.1, keep a w'' (hy.step he.1 hst) u, by rw [← Act.put_comm a v u h2]; exact he.2⟩
    | halt x w' =>
      cases x <;> simp only [Oper.upon] at h ⊢
      case panic u => exact absurd h (hnp _ _ _)
  · rename_i hw
    simp only [hw] at h
    exact ⟨h.1, keep a w hy _, by rw [← Act.put_comm a v undef h2]; exact h.2⟩

theorem wpAnyX_first {st : Bool} {e : Nat → Bool} {Qf : Nat → Exit → Act → World → Prop} {N : Act → World → Prop} {i : Nat} {oi : Oper} {v : Value} (hi : ops[i]? = some oi) (hsel : ∀ (j : Nat) (o : Oper) cs b, ops[j]? = some o → o.op ≠ .select cs b)
    (cl : Nat → Bool) (hnp : ∀ j, cl j = true → ∀ c a w, ¬ Qf j (.panic c) a w) (hno : ∀ j, cl j = true → ¬ LetsOut (Qf j)) (closed : ∀ j oj, ops[j]? = some oj → j ≠ i → cl j = false → ∃ d ∈ oj.after, Region.binds .any d = true ∧ cl d.on = false) :
    ∀ (fuel : Nat) (listed : Array Bool) (a : Act) (w : World),
      (∀ j, listed.getD j false = true → cl j = true) → (∀ j oj, ops[j]? = some oj → cl j = true → listed.getD j true = false → oi.apart ops oj = true ∧ (st = true ∨ e j = true)) →
      i ∈ Region.ready .any ops listed → YX P ops st F oi v a w →
      wpAnyX P ops Qf N F e fuel (listed.setIfInBounds i true) (a.put oi.dst v) w → wpAnyX P ops Qf N F e (fuel + 1) listed a w := by
  intro fuel
  induction fuel with
  | zero =>
    intro listed a w _ _ hr hy H
    refine ⟨fun h => (by rw [h] at hr; cases hr), fun j hj => ?_⟩
    by_cases hji : j = i
    · subst hji; exact hy.op hi H
    · have := ready_mono hj hji
      rw [H.1] at this
      cases this
  | succ fuel ih =>
    intro listed a w hcov hok hr hy H
    refine ⟨fun h => (by rw [h] at hr; cases hr), fun j hj => ?_⟩
    by_cases hji : j = i
    · subst hji; exact hy.op hi H
    · have h1 := H.2 j (ready_mono hj hji)
      obtain ⟨hjun, oj, hoj, hall⟩ := mem_ready.1 hj
      have hclj : cl j = true := by
        cases hc : cl j with
        | true => rfl
        | false =>
          obtain ⟨d, hd, hb, hcd⟩ := closed j oj hoj hji hc
          rw [hcov _ (hall d hd hb)] at hcd
          cases hcd
      obtain ⟨hap, hst⟩ := hok j oj hoj hclj hjun
      have h2 := xOp_put hoj hap (fun cs b => hsel i oi cs b hi) (fun cs b => hsel j oj cs b hoj) (hnp j hclj) (hno j hclj) hst hy h1
      have hcov' : ∀ k, (listed.setIfInBounds j true).getD k false = true → cl k = true := fun k hk => by
        by_cases hjk : j = k
        · subst hjk; exact hclj
        · rw [getD_set_ne false hjk] at hk; exact hcov k hk
      have hok' : ∀ k ok, ops[k]? = some ok → cl k = true → (listed.setIfInBounds j true).getD k true = false → oi.apart ops ok = true ∧ (st = true ∨ e k = true) := fun k ok hk hc hun => by
        refine hok k ok hk hc ?_
        by_cases hjk : j = k
        · subst hjk; exact hjun
        · rw [getD_set_ne true hjk] at hun; exact hun
      refine wpOp_mono (fun a' w' h3 => ⟨h3.1, ih (listed.setIfInBounds j true) a' w' hcov' hok' (ready_mono hr (Ne.symm hji)) h3.2.1 ?_⟩) h2
      rw [Array.setIfInBounds_comm _ _ hji]
      exact h3.2.2

/-! ### the tree of orders -/
theorem mget_mins : ∀ (j : Nat) (b : Blk) (m : Mem) (k : Nat), mget (mins j b m) k = mget ((j, b) :: m) k
  | j, b, [], k => rfl
  | j, b, (i, c) :: m, k => by
      simp only [mins]
      split
      · rfl
      · rename_i h
        simp only [mget]
        rw [mget_mins j b m k]
        simp only [mget]
        by_cases h1 : i = k
        · have : ¬ j = k := by omega
          rw [if_pos h1, if_neg this, if_pos h1]
        · rw [if_neg h1, if_neg h1]
theorem mget_msort : ∀ (m : Mem) (k : Nat), mget (msort m) k = mget m k
  | [], k => rfl
  | (j, b) :: m, k => by
      simp only [msort]
      rw [mget_mins]
      simp only [mget, mget_msort m k]
theorem Inv.memCongr {env : List DV} {mem mem' : Mem} (hi : Inv O F0 w0 M F env mem a w) (h : ∀ k, mget mem' k = mget mem k) : Inv O F0 w0 M F env mem' a w :=
  ⟨hi.dl, hi.ev, fun k blk hk => hi.mm k blk (by rw [← h]; exact hk), fun k k' blk blk' v v' b h1 h2 => hi.dis k k' blk blk' v v' b (by rw [← h]; exact h1) (by rw [← h]; exact h2), hi.grow⟩

def QN (O : Nat → Prop) (F0 : Frz) (w0 : World) (K : DS → Prop) : Exit → Act → World → Prop
  | .normal, a, w => Gd O F0 w0 K a w
  | _, _, _ => False
def plainO : AOp → Bool
  | .call true _ _ => false
  | .appn _ _ _ _ _ => false
  | .bs0 _ _ _ => false
  | _ => true
theorem trOp_plain {op : Op} {ao : AOp} (h : trOp P op = some ao) : plainO ao = true := by
  cases op <;> simp only [trOp] at h <;> try (cases h; done)
  case makeMap t r => (split at h <;> cases h); rfl
  case mapUpdate t m k v => (split at h <;> cases h); rfl
  case lookup t x i ok =>
    cases ok <;> simp only at h <;> try (cases h; done)
    (split at h <;> cases h); rfl
  case makeFunc fn x y => obtain ⟨_, _, h⟩ := trMkfn_kind h; cases h; rfl
  case call c =>
    obtain ⟨callee, args, argTypes⟩ := c
    cases callee with
    | builtin b =>
      cases b <;> simp only [trCall, trBuiltin] at h <;> try (cases h; done)
      all_goals first
        | (unfold trLen at h; (repeat' (split at h)); all_goals (cases h; try rfl))
        | (unfold trApp at h; (repeat' (split at h)); all_goals (cases h; try rfl))
        | (unfold trMm at h; (repeat' (split at h)); all_goals (cases h; try rfl))
        | (unfold trRm at h; (repeat' (split at h)); all_goals (cases h; try rfl))
    | value x =>
      simp only [trCall] at h
      unfold trFun at h
      split at h
      · simp only [Option.map_eq_some_iff] at h
        obtain ⟨_, _, h⟩ := h
        cases h
        rfl
      · (split at h <;> cases h); rfl
    | invoke x n => cases h
  all_goals (revert h; (repeat' split) <;> intro h <;> first | (cases h; done) | (cases h; rfl) | (simp only [Option.map_eq_some_iff] at h; obtain ⟨_, _, h⟩ := h; cases h; rfl))
theorem trOp_strip {op : Op} {ao : AOp} (h : trOp P op = some ao) : stripOp ao = ao := by
  have h' := trOp_plain h
  cases ao <;> first | rfl | (simp [plainO] at h'; done) | skip
  rename_i ow f as
  cases ow with
  | false => rfl
  | true => simp [plainO] at h'
theorem trOper_strip {ao : AOper} (h : trOper P ops o = some ao) : trOper P ops o = some (stripO ao) := by
  have h' := h
  unfold trOper at h
  split at h <;> try (cases h; done)
  rename_i op g h1 h2
  split at h <;> try (cases h; done)
  simp only [Option.some.injEq] at h
  subst h
  rw [h']
  simp only [stripO, trOp_strip h1]
theorem trOpers_get : ∀ {l : List Oper} {al : List AOper}, trOpers P ops l = some al → ∀ (i : Nat) o ao, l[i]? = some o → al[i]? = some ao → trOper P ops o = some ao
  | [], al, h, i, o, ao, h1, h2 => by simp at h1
  | x :: l, al, h, i, o, ao, h1, h2 => by
      simp only [trOpers] at h
      split at h <;> try (cases h; done)
      rename_i b bs g1 g2
      simp only [Option.some.injEq] at h
      subst h
      cases i with
      | zero => simp at h1 h2; subst h1; subst h2; exact g1
      | succ i => exact trOpers_get g2 i o ao (by simpa using h1) (by simpa using h2)
theorem trOpers_length : ∀ {l : List Oper} {al : List AOper}, trOpers P ops l = some al → al.length = l.length
  | [], al, h => by simp only [trOpers, Option.some.injEq] at h; subst h; rfl
  | x :: l, al, h => by
      simp only [trOpers] at h
      split at h <;> try (cases h; done)
      rename_i b bs g1 g2
      simp only [Option.some.injEq] at h
      subst h
      simp [trOpers_length g2]

theorem flag_strip (fl : List Nat) (o : AOper) : stripO (flagO fl o) = stripO o := by
  unfold flagO
  split
  · split
    · rename_i h1 h2 h3
      simp only [stripO, h1, stripOp]
    · rfl
  · split
    · rename_i h1 h2 h3
      simp only [stripO, h1, stripOp]
    · rfl
  · split
    · rename_i h1 h2 h3
      simp only [stripO, h1, stripOp]
    · rfl
  · rfl
theorem flagL_strip (fl : List Nat) : ∀ al : List AOper, stripL (flagL fl al) = stripL al
  | [] => rfl
  | o :: l => by simp only [flagL, stripL, flag_strip, flagL_strip fl l]
theorem trOpers_strip : ∀ {l : List Oper} {al : List AOper}, trOpers P ops l = some al → stripL al = al
  | [], al, h => by simp only [trOpers, Option.some.injEq] at h; subst h; rfl
  | x :: l, al, h => by
      simp only [trOpers] at h
      split at h <;> try (cases h; done)
      rename_i b bs g1 g2
      simp only [Option.some.injEq] at h
      subst h
      have := trOper_strip g1
      rw [g1, Option.some.injEq] at this
      simp only [stripL, trOpers_strip g2]
      rw [← this]
theorem trOpers_getS : ∀ {l : List Oper} {al : List AOper}, trOpers P ops l = some (stripL al) → ∀ (i : Nat) o ao, l[i]? = some o → al[i]? = some ao → trOper P ops o = some (stripO ao)
  | [], al, h, i, o, ao, h1, h2 => by simp at h1
  | x :: l, al, h, i, o, ao, h1, h2 => by
      cases al with
      | nil => simp at h2
      | cons c al =>
        simp only [trOpers] at h
        split at h <;> try (cases h; done)
        rename_i b bs g1 g2
        simp only [stripL, Option.some.injEq, List.cons.injEq] at h
        obtain ⟨h3, h4⟩ := h
        cases i with
        | zero => simp at h1 h2; subst h1; subst h2; rw [← h3]; exact g1
        | succ i => exact trOpers_getS (by rw [← h4]; exact g2) i o ao (by simpa using h1) (by simpa using h2)

/-- an operation that comes up, whatever it does -/
theorem op_X {e : Bool} (hi : Inv O F0 w0 M F s.env s.mem a w) {ao : AOper} (h : trOper P ops o = some (stripO ao)) (hK : dOp P ao s K) (he : e = true → extA ao.op = true) :
    if Region.wanted o (yielded ops a.tmps) then o.wp P a w (GdX e O F0 w0 F w K) Q else GdX e O F0 w0 F w K (a.put o.dst undef) w := by
  obtain ⟨h1, h2, h3, h4⟩ := trOper_ok h
  have hs := dOp_sound (Q := Q) hi.rebase h hK
  split
  · rename_i hw
    rw [if_pos hw] at hs
    cases hee : e with
    | false => exact Oper.wp_mono (fun a' w' hg => gdX_of hi hg (by simp)) hs
    | true =>
      have h1' : trOp P o.op = some (stripOp ao.op) := h1
      obtain ⟨adst, ag, aop⟩ := ao
      simp only at h3
      subst h3
      have hg := guard_ok (A := dRun P aop s o.dst K) (B := kPut o.dst s K (.tup [])) hi h2
      have hrun : dRun P aop s o.dst K := by
        cases ag with
        | none => exact hK
        | some p =>
          obtain ⟨t, want⟩ := p
          have := hg.2 t want rfl hK
          rw [if_pos hw] at this
          exact this
      exact Oper.wp_mono (fun a' w' hg => gdX_of hi hg.1 (fun _ => hg.2)) (dRun_ext hi.rebase (he hee) h1' hrun)
  · rename_i hw
    rw [if_neg hw] at hs
    exact gdX_of hi hs (fun _ _ _ => rfl)

theorem opS_Y {st : Bool} (hi : Inv O F0 w0 M F s.env s.mem a w) {ao : AOper} (h : trOper P ops o = some (stripO ao)) (hq : quietA ao.op = true) (hK : if st then dOpS P ao s K else dOp P ao s K) :
    ∃ v, YX P ops st F o v a w ∧ ∃ s M, Inv O F0 w0 M F s.env s.mem (a.put o.dst v) w ∧ K s := by
  obtain ⟨h1, h2, h3, h4⟩ := trOper_ok h
  obtain ⟨adst, ag, aop⟩ := ao
  simp only at h3
  subst h3
  have hg := guard_ok (A := dRunT P st aop s o.dst K) (B := kPut o.dst s K (.tup [])) hi h2
  have hput : kPut o.dst s K (.tup []) → ∃ s M, Inv O F0 w0 M F s.env s.mem (a.put o.dst undef) w ∧ K s := by
    intro hk
    cases hd : o.dst with
    | none => rw [hd] at hk; exact ⟨s, M, hi, hk⟩
    | some k => rw [hd] at hk; exact ⟨⟨stp s.env k (.tup []), s.mem⟩, M, hi.put k undef_tup, hk⟩
  cases ag with
  | none =>
    have hK' : dRunT P st aop s o.dst K := by cases st <;> exact hK
    obtain ⟨v, e1, e2⟩ := dRun_yd hi hq h1 hK'
    exact ⟨v, .inl ⟨hg.1 rfl, e1⟩, e2⟩
  | some p =>
    obtain ⟨t, want⟩ := p
    have hK' : kGv (gt s.env t) want (dRunT P st aop s o.dst K) (kPut o.dst s K (.tup [])) := by cases st <;> exact hK
    have := hg.2 t want rfl hK'
    by_cases hw : Region.wanted o (yielded ops a.tmps) = true
    · rw [if_pos hw] at this
      obtain ⟨v, e1, e2⟩ := dRun_yd hi hq h1 this
      exact ⟨v, .inl ⟨hw, e1⟩, e2⟩
    · rw [if_neg hw] at this
      exact ⟨undef, .inr ⟨by simpa using hw, rfl⟩, hput this⟩

theorem okQ_spec {al : List AOper} {listed : Array Bool} {i i' : Nat} {st : Bool} {cl : Nat} (h : okQ ops al listed i = some (i', st, cl)) : i' = i ∧ ∃ oi ai, ops[i]? = some oi ∧ al[i]? = some ai ∧ quietA ai.op = true ∧
    covB ops.size listed cl = true ∧ closedB ops i cl = true ∧ okB ops al listed oi cl st = true := by
  unfold okQ at h
  split at h <;> try (cases h; done)
  rename_i oi ai h1 h2
  simp only at h
  split at h <;> try (cases h; done)
  rename_i h3
  simp only [Bool.and_eq_true] at h3
  split at h
  · rename_i h4
    simp only [Option.some.injEq, Prod.mk.injEq] at h
    obtain ⟨rfl, rfl, rfl⟩ := h
    exact ⟨rfl, oi, ai, h1, h2, h3.1.1.1, h3.1.2, h3.2, h4⟩
  · split at h <;> try (cases h; done)
    rename_i h4
    simp only [Option.some.injEq, Prod.mk.injEq] at h
    obtain ⟨rfl, rfl, rfl⟩ := h
    exact ⟨rfl, oi, ai, h1, h2, h3.1.1.1, h3.1.2, h3.2, h4⟩

theorem altsOf_get {f : Nat → Option DT} {s : DS} : ∀ {r : List Nat} {dt : DT}, altsOf f r = some dt → dDT P dt s K → ∀ i ∈ r, ∃ d, f i = some d ∧ dDT P d s K
  | [], dt, h, hK, i, hi => by cases hi
  | [x], dt, h, hK, i, hi => by
      simp only [List.mem_singleton] at hi
      subst hi
      exact ⟨dt, h, hK⟩
  | x :: y :: r, dt, h, hK, i, hi => by
      simp only [altsOf] at h
      split at h <;> try (cases h; done)
      rename_i d1 d2 h1 h2
      simp only [Option.some.injEq] at h
      subst h
      obtain ⟨k1, k2⟩ := (show dDT P d1 s K ∧ dDT P d2 s K from hK)
      rcases List.mem_cons.1 hi with rfl | hi
      · exact ⟨d1, h1, k1⟩
      · exact altsOf_get h2 k2 i hi

theorem build_sound {al : List AOper} (hal : trOpers P ops ops.toList = some (stripL al)) (hsel : Region.noSelect ops = true) : ∀ (fuel : Nat) (listed : Array Bool) (dt : DT) (s : DS) (M : Hnd) (F : Frz) (a : Act) (w : World), 
    build ops al fuel listed = some dt → listed.size = ops.size → Inv O F0 w0 M F s.env s.mem a w → dDT P dt s K → wpAnyX P ops (fun _ => QN O F0 w0 K) (Gd O F0 w0 K) F (extI al) fuel listed a w := by
  have hnil : ∀ {s : DS} {M : Hnd} {F : Frz} {a : Act} {w : World}, Inv O F0 w0 M F s.env s.mem a w → dDT P .nil s K → Gd O F0 w0 K a w := fun {s M F a w} hi hK => ⟨⟨s.env, msort s.mem⟩, M, F, hi.memCongr (mget_msort s.mem), hK⟩
  intro fuel
  induction fuel with
  | zero =>
    intro listed dt s M F a w h hsz hi hK
    simp only [build] at h
    split at h <;> try (cases h; done)
    rename_i hr
    cases h
    exact ⟨by simpa using hr, hnil hi hK⟩
  | succ fuel ih =>
    intro listed dt s M F a w h hsz hi hK
    simp only [build] at h
    split at h
    · rename_i hr
      cases h
      exact ⟨fun _ => hnil hi hK, fun i hi' => by rw [hr] at hi'; cases hi'⟩
    · rename_i r hr
      split at h
      · rename_i i st cl hf
        obtain ⟨i0, hi0, hq⟩ := List.exists_of_findSome?_eq_some hf
        obtain ⟨rfl, oi, ai, g1, g2, g3, g4, g5, g6⟩ := okQ_spec hq
        unfold qT at h
        rw [g2] at h
        split at h <;> try (cases h; done)
        rename_i a' n e1 e2
        cases e1
        cases h
        have hK' : if st then dOpS P ai s (fun s' => dDT P n s' K) else dOp P ai s (fun s' => dDT P n s' K) := by cases st <;> exact hK
        obtain ⟨v, hy, s', M', hi', hk'⟩ := opS_Y (ops := ops) hi (trOpers_getS hal i oi ai (by simpa using g1) g2) g3 hK'
        have hlt : ∀ j, listed.getD j false = true → j < ops.size := fun j hj => by
          rcases Nat.lt_or_ge j listed.size with h' | h'
          · rw [← hsz]; exact h'
          · simp [Array.getElem?_eq_none h'] at hj
        refine wpAnyX_first g1 (fun j o cs b => Region.noSelect_spec hsel j o cs b) (fun j => cl.testBit j) (fun _ _ _ _ _ h => h) (fun _ _ ⟨_, _, h⟩ => h) ?_ fuel listed a w ?_ ?_ hi0 hy (ih _ n s' M' F _ w e2 (by simp [hsz]) hi' hk')
        · intro j oj hj hne hc
          have := List.all_eq_true.1 g5 j (List.mem_range.2 (Array.getElem?_eq_some_iff.1 hj).1)
          simp only [hj, Bool.or_eq_true, beq_iff_eq, hne, false_or, hc, Bool.false_eq_true, Bool.not_eq_true'] at this
          unfold bindsAll at this
          rw [Array.all_eq_false] at this
          obtain ⟨k, hk, h2⟩ := this
          refine ⟨oj.after[k], Array.getElem_mem hk, ?_⟩
          simpa using h2
        · intro j hj
          have := List.all_eq_true.1 g4 j (List.mem_range.2 (hlt j hj))
          simpa [hj] using this
        · intro j oj hj hc hun
          have := List.all_eq_true.1 g6 j (List.mem_range.2 (Array.getElem?_eq_some_iff.1 hj).1)
          simp only [hj, hc, hun, Bool.not_true, Bool.false_or, Bool.and_eq_true, Bool.or_eq_true] at this
          exact this
      · refine ⟨fun hr' => absurd hr' hr, fun i hi' => ?_⟩
        obtain ⟨d, hd, hdk⟩ := altsOf_get h hK i hi'
        unfold opT at hd
        split at hd <;> try (cases hd; done)
        rename_i ai n e1 e2
        cases hd
        obtain ⟨_, oi, hoi, _⟩ := mem_ready.1 hi'
        have hx := op_X (e := extI al i) (Q := QN O F0 w0 K) hi (trOpers_getS hal i oi ai (by simpa using hoi) e1) (show dOp P ai s _ from hdk) (fun he => by simpa [extI, e1] using he)
        unfold xOp wpOp
        simp only [hoi]
        have fin : ∀ a' w', GdX (extI al i) O F0 w0 F w (fun s' => dDT P n s' K) a' w' → Stb (!extI al i) F w w' ∧ wpAnyX P ops (fun _ => QN O F0 w0 K) (Gd O F0 w0 K) F (extI al) fuel (listed.setIfInBounds i true) a' w' := by
          rintro a' w' ⟨s', M', F', h1, h2, h3, h4⟩
          exact ⟨h4, wpAnyX_mono h3 _ _ _ _ (ih _ n s' M' F' a' w' e2 (by simp [hsz]) h1 h2)⟩
        split
        · rename_i hw
          rw [if_pos hw] at hx
          exact .inl (Oper.wp_mono fin hx)
        · rename_i hw
          rw [if_neg hw] at hx
          exact fin _ _ hx
theorem draw_sound {id : Nat} {dt : DT} {fl : List Nat} (h : mkDT P fl ops = some dt) (hi : Inv O F0 w0 M F s.env s.mem a w) (hK : dDT P dt s K) (hQ : ∀ a w, Gd O F0 w0 K a w → Q .normal a w) : (Code.region id ops true).wp P Q a w := by
  unfold mkDT at h
  split at h <;> try (cases h; done)
  rename_i hm
  simp only [Bool.and_eq_true] at hm
  split at h <;> try (cases h; done)
  rename_i al hal
  refine wp_mono (Q := QN O F0 w0 K) (wp_region_any hm.1 (wpAny_of_X (F := F) (e := extI (flagL fl al)) (Qf := fun _ => QN O F0 w0 K) (N := Gd O F0 w0 K) (fun _ _ h => h) (fun _ _ _ _ h => h) (fun _ h => h) _ _ _ _ ?_)) ?_
  · exact build_sound (al := flagL fl al) (by rw [flagL_strip, trOpers_strip hal]; exact hal) hm.2 _ _ dt s M F a _ h (by simp) hi.drew hK
  · intro e a w hq
    cases e <;> first | exact hQ a w hq | exact hq.elim
end
end Go.Proofs.YtcolebkklojccaaGreat.E
