/-
  The engine, part T: code, results, contracts.
-/
import Derived.Test.YtcolebkklojccaaGreatEngO
set_option linter.unusedVariables false
set_option linter.unusedSimpArgs false
set_option linter.unusedSimpArgs false
namespace Go.Proofs.YtcolebkklojccaaGreat.E
open Go

def trReg (P : Program) (fl : List Nat) (ops : Array Oper) (d : Bool) : AC := match d with
  | false => match trOpers P ops ops.toList with
    | some l => .ops l
    | none => .bad
  | true => match mkDL P ops with
    | some (t, o) => .drawp t o
    | none => match mkDT P fl ops with
      | some t => .draw t
      | none => .bad
def trCnd (x : Option AX) (a b : AC) : AC := match x with
  | some x => .cond x a b
  | none => .bad
/-- what is not translated must not be reached -/
def trC (P : Program) (fl : List Nat) : Code → AC
  | .skip => .skip
  | .region _ ops d => trReg P fl ops d
  | .seq a b => .seq (trC P fl a) (trC P fl b)
  | .cond c a b => trCnd (trX c) (trC P fl a) (trC P fl b)
  | .block id c => .block id (trC P fl c)
  | .loop c => .loop (trC P fl c)
  | .exit id => .exit id
  | .scope c => trC P fl c
  | .label _ => .skip
  | .ret => .ret
  | _ => .bad
def trCodeF (P : Program) (fl : List Nat) (c : Code) : Option AC := some (trC P fl c)
abbrev trCode (P : Program) (c : Code) : Option AC := trCodeF P [] c
theorem trReg_ops {P : Program} {fl : List Nat} {ops : Array Oper} {d : Bool} {al : List AOper} (h : trReg P fl ops d = .ops al) : d = false ∧ trOpers P ops ops.toList = some al := by
  unfold trReg at h
  split at h
  · split at h
    · rename_i l hl
      cases h
      exact ⟨rfl, hl⟩
    · cases h
  · split at h
    · cases h
    · split at h <;> cases h
theorem trReg_draw {P : Program} {fl : List Nat} {ops : Array Oper} {d : Bool} {t : DT} (h : trReg P fl ops d = .draw t) : d = true ∧ mkDT P fl ops = some t := by
  unfold trReg at h
  split at h
  · split at h <;> cases h
  · split at h
    · cases h
    · split at h
      · rename_i l hl
        cases h
        exact ⟨rfl, hl⟩
      · cases h
theorem trReg_drawp {P : Program} {fl : List Nat} {ops : Array Oper} {d : Bool} {t : DT} {o : AOper} (h : trReg P fl ops d = .drawp t o) : d = true ∧ mkDL P ops = some (t, o) := by
  unfold trReg at h
  split at h
  · split at h <;> cases h
  · split at h
    · rename_i l hl
      cases h
      exact ⟨rfl, hl⟩
    · split at h <;> cases h
theorem trReg_kind (P : Program) (fl : List Nat) (ops : Array Oper) (d : Bool) : (∃ l, trReg P fl ops d = .ops l) ∨ (∃ t, trReg P fl ops d = .draw t) ∨ (∃ t o, trReg P fl ops d = .drawp t o) ∨ trReg P fl ops d = .bad := by
  unfold trReg
  split
  · split
    · exact .inl ⟨_, rfl⟩
    · exact .inr (.inr (.inr rfl))
  · split
    · exact .inr (.inr (.inl ⟨_, _, rfl⟩))
    · split
      · exact .inr (.inl ⟨_, rfl⟩)
      · exact .inr (.inr (.inr rfl))
theorem trCnd_kind (x : Option AX) (a b : AC) : (∃ y, x = some y ∧ trCnd x a b = .cond y a b) ∨ trCnd x a b = .bad := by
  cases x with
  | none => exact .inr rfl
  | some y => exact .inl ⟨y, rfl, rfl⟩

/-- a panic with what reads so -/
def PanOK (O : Nat → Prop) (F0 : Frz) (w0 : World) (Z : DV → DS → Prop) (chain : List PanicEntry) (a : Act) (w : World) : Prop :=
  ∃ s M F d v, chain = [{ v := v, recovered := false }] ∧ RF F w d v ∧ Inv O F0 w0 M F s.env s.mem a w ∧ Z d s
def Lft (O : Nat → Prop) (F0 : Frz) (w0 : World) (Q : AE → DS → Prop) : Exit → Act → World → Prop
  | .normal, a, w => Gd O F0 w0 (Q .normal) a w
  | .exit id, a, w => Gd O F0 w0 (Q (.exit id)) a w
  | .ret, a, w => Gd O F0 w0 (Q .ret) a w
  | .panic chain, a, w => PanOK O F0 w0 (kZ Q) chain a w
  | _, _, _ => False

section
variable {P : Program} {O : Nat → Prop} {F0 : Frz} {w0 : World}

theorem forgetE_ok (ts : List Nat) : ∀ (env : List DV), All2 (fun d d' => d' = d ∨ d' = .any) env (forgetE ts env) := by
  induction ts with
  | nil =>
    intro env
    exact All2.of_get rfl fun i d v h1 h2 => by simp only [forgetE] at h2; rw [h1] at h2; cases h2; exact .inl rfl
  | cons t ts ih =>
    intro env
    have h1 := ih (stp env t .any)
    refine All2.of_get (by simp only [forgetE]; rw [h1.length, stp_eq]; simp) fun i d v g1 g2 => ?_
    simp only [forgetE] at g2
    have hlt : i < env.length := (List.getElem?_eq_some_iff.1 g1).1
    by_cases hit : i = t
    · subst hit
      obtain ⟨v', e, r⟩ := h1.get i .any (by rw [stp_eq]; simp [hlt])
      rw [g2] at e; cases e
      exact .inr (r.elim id id)
    · obtain ⟨v', e, r⟩ := h1.get i d (by rw [stp_eq, List.getElem?_set_ne (fun h => hit h.symm)]; exact g1)
      rw [g2] at e; cases e
      exact r
theorem mdels_ok {M : Hnd} {F : Frz} {env : List DV} {a : Act} {w : World} : ∀ (ks : List Nat) {mem : Mem}, Inv O F0 w0 M F env mem a w → Inv O F0 w0 M F env (mdels ks mem) a w
  | [], _, h => h
  | k :: ks, _, h => (mdels_ok ks h).mdel k
theorem forget_ok {M : Hnd} {F : Frz} {a : Act} {w : World} {s : DS} (ts ks : List Nat) (h : Inv O F0 w0 M F s.env s.mem a w) : Inv O F0 w0 M F (forget ts ks s).env (forget ts ks s).mem a w :=
  ((mdels_ok ks h).weaken (forgetE_ok ts s.env)).memCongr (mget_msort _)

theorem trOp_call {op : Op} {f : Nat} {args : List AX} (h : trOp P op = some (.call false f args)) : ∃ xs ts, op = .call { callee := .value (.func f), args := xs, argTypes := ts } ∧ trXs xs.toList = some args := by
  cases op <;> simp only [trOp] at h <;> try (cases h; done)
  case call c =>
    obtain ⟨x, xs, ts, rfl, h2⟩ := trCall_ext h rfl
    unfold trFun at h2
    split at h2
    · rename_i g
      simp only [Option.map_eq_some_iff] at h2
      obtain ⟨as, h3, h4⟩ := h2
      simp only [AOp.call.injEq, true_and] at h4
      obtain ⟨rfl, rfl⟩ := h4
      exact ⟨xs, ts, rfl, h3⟩
    · split at h2 <;> simp at h2
  case makeMap t r => split at h <;> cases h
  case mapUpdate t m k v => split at h <;> cases h
  case lookup t x i ok =>
    cases ok <;> simp only at h <;> try (cases h; done)
    split at h <;> cases h
  case makeFunc fn x y =>
    obtain ⟨g, as, h3⟩ := trMkfn_kind h
    cases h3
  all_goals (exfalso; revert h; (repeat' split) <;> simp)
theorem kSpecP_ok {M : Hnd} {F : Frz} {a : Act} {w : World} {s : DS} {K : DS → Prop} {Z : DV → DS → Prop} {Q : Exit → Act → World → Prop} (hi : Inv O F0 w0 M F s.env s.mem a w) {f : Nat} {ds : List DV} {vs : Array Value} {dst : Option Nat} (hv : All2 (RV M F w) ds vs.toList)
    (hK : kSpecP P f ds dst s K Z) (hQ : ∀ chain a w, PanOK O F0 w0 Z chain a w → Q (.panic chain) a w) :
    Calls P f vs w fun
      | .returned v, w'' => Gd O F0 w0 K (a.put dst v) w''
      | .panicked chain, w'' => Q (.panic chain) a w''
      | .outgrown, _ => LetsOut Q := by
  rcases hK with hK | ⟨hfz, d, hs, hZ⟩
  · refine (kSpec_ok (Q := Q) hi hv hK).mono fun e w'' he => ?_
    cases e <;> first | exact he.1 | exact he
  · have hv' : All2 (RF F w) ds vs.toList := by
      refine All2.of_get (by rw [hv.length]) fun i d v h1 h2 => ?_
      obtain ⟨v', h3, h4⟩ := hv.get i d h1
      rw [h2] at h3
      cases h3
      have : isFz d = true := by
        simp only [List.all_eq_true] at hfz
        exact hfz d (List.mem_iff_getElem?.2 ⟨i, h1⟩)
      exact (RV_fz this).1 h4
    refine (hs.2 F w vs (fun b o h => hi.grow.fwf b o h) hv').mono fun e w'' he => ?_
    obtain ⟨v, F', rfl, hg, hr⟩ := he
    exact hQ _ _ _ ⟨s, M, F', d, v, rfl, hr, hi.after hg (fun _ _ h => h.elim) (fun _ _ _ _ _ _ _ h => h) (fun _ h => h.elim), hZ⟩
theorem specP_callable {f : Nat} {ds : List DV} {dst : Option Nat} {s : DS} {K : DS → Prop} {Z : DV → DS → Prop} (h : kSpecP P f ds dst s K Z) : callable P f = true := by
  rcases h with h | ⟨_, d, h, _⟩
  · exact spec_callable h
  · exact h.1
theorem dRunP_sound {M : Hnd} {F : Frz} {a : Act} {w : World} {s : DS} {K : DS → Prop} {Z : DV → DS → Prop} {Q : Exit → Act → World → Prop} {o : Oper} (hi : Inv O F0 w0 M F s.env s.mem a w) {ao : AOp} (h : trOp P o.op = some (stripOp ao)) (hd : dstOK (stripOp ao) o.dst = true) (hK : dRunP P ao s o.dst K Z)
    (hQ : ∀ chain a w, PanOK O F0 w0 Z chain a w → Q (.panic chain) a w) : o.wp P a w (Gd O F0 w0 K) Q := by
  unfold dRunP at hK
  split at hK
  · rename_i f args
    have hop : ∃ xs ts, o.op = .call { callee := .value (.func f), args := xs, argTypes := ts } ∧ trXs xs.toList = some args := trOp_call h
    obtain ⟨xs, ts, ho, hx⟩ := hop
    obtain ⟨s', F', hi', _, hk⟩ := frzArgs_ok hi hK
    unfold Oper.wp
    rw [run_call ho rfl (specP_callable hk)]
    simp only [Array.append_empty]
    exact kSpecP_ok hi' (by simpa using trXs_ok hx hi') hk hQ
  · exact dRun_sound hi h hd hK
theorem dOpP_sound {M : Hnd} {F : Frz} {a : Act} {w : World} {s : DS} {K : DS → Prop} {Z : DV → DS → Prop} {Q : Exit → Act → World → Prop} {o : Oper} {ops : Array Oper} (hi : Inv O F0 w0 M F s.env s.mem a w) {ao : AOper} (h : trOper P ops o = some (stripO ao)) (hK : dOpP P ao s K Z)
    (hQ : ∀ chain a w, PanOK O F0 w0 Z chain a w → Q (.panic chain) a w) : if Region.wanted o (yielded ops a.tmps) then o.wp P a w (Gd O F0 w0 K) Q else Gd O F0 w0 K (a.put o.dst undef) w := by
  obtain ⟨h1, h2, h3, h4⟩ := trOper_ok h
  obtain ⟨adst, ag, aop⟩ := ao
  simp only at h3
  subst h3
  simp only at h1 h2 h4
  have hg := guard_ok (A := dRunP P aop s o.dst K Z) (B := kPut o.dst s K (.tup [])) hi h2
  cases ag with
  | none =>
    rw [if_pos (hg.1 rfl)]
    exact dRunP_sound hi h1 h4 hK hQ
  | some p =>
    obtain ⟨t, want⟩ := p
    have := hg.2 t want rfl hK
    split
    · rename_i hw
      rw [if_pos hw] at this
      exact dRunP_sound hi h1 h4 this hQ
    · rename_i hw
      rw [if_neg hw] at this
      exact put_ok hi undef_tup this
theorem dOpsP_sound {K : DS → Prop} {Z : DV → DS → Prop} {Q : Exit → Act → World → Prop} {ops : Array Oper} : ∀ {l : List Oper} {al : List AOper} {s : DS} {M : Hnd} {F : Frz} {a : Act} {w : World}, trOpers P ops l = some (stripL al) → Inv O F0 w0 M F s.env s.mem a w → dOpsP P al s K Z →
    (∀ a w, Gd O F0 w0 K a w → Q .normal a w) → (∀ chain a w, PanOK O F0 w0 Z chain a w → Q (.panic chain) a w) → wpList P ops Q l a w
  | [], al, s, M, F, a, w, h, hi, hK, hQ, _ => by
      simp only [trOpers, Option.some.injEq] at h
      cases al with
      | nil => exact hQ a w ⟨s, M, F, hi, hK⟩
      | cons x al => simp [stripL] at h
  | o :: l, al, s, M, F, a, w, h, hi, hK, hQ, hP => by
      simp only [trOpers] at h
      split at h <;> try (cases h; done)
      rename_i b bs h1 h2
      cases al with
      | nil => simp [stripL] at h
      | cons x al =>
        simp only [stripL, Option.some.injEq, List.cons.injEq] at h
        obtain ⟨rfl, rfl⟩ := h
        have hs := dOpP_sound (Q := Q) hi h1 (K := fun s' => dOpsP P al s' K Z) (Z := Z) hK hP
        have step : ∀ a' w', Gd O F0 w0 (fun s' => dOpsP P al s' K Z) a' w' → wpList P ops Q l a' w' := by
          rintro a' w' ⟨s', M', F', hi', hK'⟩
          exact dOpsP_sound h2 hi' hK' hQ hP
        unfold wpList
        split
        · rename_i hw
          rw [if_pos hw] at hs
          exact .inl (Oper.wp_mono step hs)
        · rename_i hw
          rw [if_neg hw] at hs
          exact step _ _ hs
/-! ### an order is drawn, and the last operation may panic -/
def QPn (O : Nat → Prop) (F0 : Frz) (w0 : World) (K : DS → Prop) (Z : DV → DS → Prop) : Exit → Act → World → Prop
  | .normal, a, w => Gd O F0 w0 K a w
  | .panic chain, a, w => PanOK O F0 w0 Z chain a w
  | _, _, _ => False
theorem opP_X {M : Hnd} {F : Frz} {a : Act} {w : World} {s : DS} {K K0 : DS → Prop} {Z : DV → DS → Prop} {o : Oper} {ops : Array Oper} (hi : Inv O F0 w0 M F s.env s.mem a w) {ao : AOper} (h : trOper P ops o = some ao) (hK : dOpP P ao s K Z) :
    if Region.wanted o (yielded ops a.tmps) then o.wp P a w (GdX false O F0 w0 F w K) (QPn O F0 w0 K0 Z) else GdX false O F0 w0 F w K (a.put o.dst undef) w := by
  have hs := dOpP_sound (Q := QPn O F0 w0 K0 Z) hi.rebase (trOper_strip h) hK (fun chain a' w' hp => by
    obtain ⟨s', M', F', d, v, h1, h2, h3, h4⟩ := hp
    exact ⟨s', M', F', d, v, h1, h2, unbase hi h3, h4⟩)
  split
  · rename_i hw
    rw [if_pos hw] at hs
    exact Oper.wp_mono (fun a' w' hg => gdX_of hi hg (by simp)) hs
  · rename_i hw
    rw [if_neg hw] at hs
    exact gdX_of hi hs (by simp)
def extL (al : List AOper) (L j : Nat) : Bool := extI al j && j != L
def QfL (L : Nat) (O : Nat → Prop) (F0 : Frz) (w0 : World) (K : DS → Prop) (Z : DV → DS → Prop) (i : Nat) : Exit → Act → World → Prop := if i = L then QPn O F0 w0 K Z else QN O F0 w0 K
theorem buildL_sound {ops : Array Oper} {al : List AOper} (hal : trOpers P ops ops.toList = some al) (hsel : Region.noSelect ops = true) {L : Nat} {oL : AOper} (hL : al[L]? = some oL) {K : DS → Prop} {Z : DV → DS → Prop} :
    ∀ (fuel : Nat) (listed : Array Bool) (dt : DT) (s : DS) (M : Hnd) (F : Frz) (a : Act) (w : World), buildL ops al L fuel listed = some dt → listed.size = ops.size → Inv O F0 w0 M F s.env s.mem a w →
      dDT P dt s (fun s' => dOpP P oL s' (fun s'' => kS ⟨s''.env, msort s''.mem⟩ K) Z) → wpAnyX P ops (QfL L O F0 w0 K Z) (Gd O F0 w0 K) F (extL al L) fuel listed a w := by
  intro fuel
  induction fuel with
  | zero => intro listed dt s M F a w h; simp [buildL] at h
  | succ fuel ih =>
    intro listed dt s M F a w h hsz hi hK
    simp only [buildL] at h
    split at h
    · cases h
    · rename_i r hr
      split at h
      · rename_i hrL
        split at h <;> try (cases h; done)
        rename_i hlast
        cases h
        refine ⟨fun hr' => absurd hr' hr, fun i hi' => ?_⟩
        rw [hrL] at hi'
        have hiL : i = L := by simpa using hi'
        subst hiL
        obtain ⟨_, oi, hoi, _⟩ := mem_ready.1 (by rw [hrL]; simp : i ∈ Region.ready .any ops listed)
        have hK' : dOpP P oL ⟨s.env, msort s.mem⟩ (fun s'' => kS ⟨s''.env, msort s''.mem⟩ K) Z := hK
        have hx := opP_X (K0 := K) (s := ⟨s.env, msort s.mem⟩) (hi.memCongr (mget_msort s.mem)) (trOpers_get hal i oi oL (by simpa using hoi) hL) hK'
        unfold xOp wpOp
        simp only [hoi]
        have hee : extL al i i = false := by simp [extL]
        have hQ : QfL i O F0 w0 K Z i = QPn O F0 w0 K Z := by simp [QfL]
        rw [hee, hQ]
        have fin : ∀ a' w', GdX false O F0 w0 F w (fun s'' => kS ⟨s''.env, msort s''.mem⟩ K) a' w' → Stb (!false) F w w' ∧ wpAnyX P ops (QfL i O F0 w0 K Z) (Gd O F0 w0 K) F (extL al i) fuel (listed.setIfInBounds i true) a' w' := by
          rintro a' w' ⟨s', M', F', h1, h2, h3, h4⟩
          have hg : Gd O F0 w0 K a' w' := ⟨⟨s'.env, msort s'.mem⟩, M', F', h1.memCongr (mget_msort s'.mem), h2⟩
          have hnil : Region.ready .any ops (listed.setIfInBounds i true) = [] := by simpa using hlast
          refine ⟨h4, ?_⟩
          cases fuel with
          | zero => exact ⟨hnil, hg⟩
          | succ fuel => exact ⟨fun _ => hg, fun j hj => by rw [hnil] at hj; cases hj⟩
        split
        · rename_i hw
          rw [if_pos hw] at hx
          exact .inl (Oper.wp_mono fin hx)
        · rename_i hw
          rw [if_neg hw] at hx
          exact fin _ _ hx
      · rename_i hrL
        split at h <;> try (cases h; done)
        rename_i hnc
        split at h
        · rename_i i st cl hf
          obtain ⟨i0, hi0, hq⟩ := List.exists_of_findSome?_eq_some hf
          have hq' : okQ ops al listed i0 = some (i, st, cl) ∧ cl.testBit L = false := by
            unfold okL at hq
            split at hq
            · rename_i j st' cl' hj
              split at hq
              · cases hq
              · rename_i hb
                cases hq
                exact ⟨hj, by simpa using hb⟩
            · cases hq
          obtain ⟨hq1, hclL⟩ := hq'
          obtain ⟨rfl, oi, ai, g1, g2, g3, g4, g5, g6⟩ := okQ_spec hq1
          unfold qT at h
          rw [g2] at h
          split at h <;> try (cases h; done)
          rename_i a' n e1 e2
          cases e1
          cases h
          have hK' : if st then dOpS P ai s (fun s' => dDT P n s' (fun s' => dOpP P oL s' (fun s'' => kS ⟨s''.env, msort s''.mem⟩ K) Z)) else dOp P ai s (fun s' => dDT P n s' (fun s' => dOpP P oL s' (fun s'' => kS ⟨s''.env, msort s''.mem⟩ K) Z)) := by cases st <;> exact hK
          obtain ⟨v, hy, s', M', hi', hk'⟩ := opS_Y (ops := ops) hi (trOper_strip <| trOpers_get hal i oi ai (by simpa using g1) g2) g3 hK'
          have hlt : ∀ j, listed.getD j false = true → j < ops.size := fun j hj => by
            rcases Nat.lt_or_ge j listed.size with h' | h'
            · rw [← hsz]; exact h'
            · simp [Array.getElem?_eq_none h'] at hj
          have hneL : ∀ j, cl.testBit j = true → j ≠ L := fun j hj e => by rw [e, hclL] at hj; cases hj
          refine wpAnyX_first g1 (fun j o cs b => Region.noSelect_spec hsel j o cs b) (fun j => cl.testBit j) (fun j hj c a w hh => ?_) (fun j hj hh => ?_) ?_ fuel listed a w ?_ ?_ hi0 hy (ih _ n s' M' F _ w e2 (by simp [hsz]) hi' hk')
          · simp only [QfL, if_neg (hneL j hj)] at hh
            exact hh
          · simp only [QfL, if_neg (hneL j hj)] at hh
            obtain ⟨_, _, hh⟩ := hh
            exact hh
          · intro j oj hj hne hc
            have := List.all_eq_true.1 g5 j (List.mem_range.2 (Array.getElem?_eq_some_iff.1 hj).1)
            simp only [hj, Bool.or_eq_true, beq_iff_eq, hne, false_or, hc, Bool.false_eq_true, Bool.not_eq_true'] at this
            unfold bindsAll at this
            rw [Array.all_eq_false] at this
            obtain ⟨k, hk, h2⟩ := this
            refine ⟨oj.after[k], Array.getElem_mem hk, ?_⟩
            simpa using h2
          · intro j hj
            have := List.all_eq_true.1 g4 j (List.mem_range.2 (hlt j hj))
            simpa [hj] using this
          · intro j oj hj hc hun
            have := List.all_eq_true.1 g6 j (List.mem_range.2 (Array.getElem?_eq_some_iff.1 hj).1)
            simp only [hj, hc, hun, Bool.not_true, Bool.false_or, Bool.and_eq_true, Bool.or_eq_true] at this
            refine ⟨this.1, this.2.imp id fun hx => ?_⟩
            simp only [extL, hx, Bool.true_and, bne_iff_ne, ne_eq]
            exact hneL j hc
        · refine ⟨fun hr' => absurd hr' hr, fun i hi' => ?_⟩
          obtain ⟨d, hd, hdk⟩ := altsOf_get h hK i hi'
          unfold opT at hd
          split at hd <;> try (cases hd; done)
          rename_i ai n e1 e2
          cases hd
          obtain ⟨_, oi, hoi, _⟩ := mem_ready.1 hi'
          have hne : i ≠ L := fun e => hnc (by rw [← e]; simpa using hi')
          have hx := op_X (e := extL al L i) (Q := QN O F0 w0 K) hi (trOper_strip <| trOpers_get hal i oi ai (by simpa using hoi) e1) (show dOp P ai s _ from hdk) (fun he => by
            simp only [extL, Bool.and_eq_true] at he
            simpa [extI, e1] using he.1)
          unfold xOp wpOp
          simp only [hoi]
          have hQ : QfL L O F0 w0 K Z i = QN O F0 w0 K := by simp [QfL, hne]
          rw [hQ]
          have fin : ∀ a' w', GdX (extL al L i) O F0 w0 F w (fun s' => dDT P n s' (fun s' => dOpP P oL s' (fun s'' => kS ⟨s''.env, msort s''.mem⟩ K) Z)) a' w' → Stb (!extL al L i) F w w' ∧ wpAnyX P ops (QfL L O F0 w0 K Z) (Gd O F0 w0 K) F (extL al L) fuel (listed.setIfInBounds i true) a' w' := by
            rintro a' w' ⟨s', M', F', h1, h2, h3, h4⟩
            exact ⟨h4, wpAnyX_mono h3 _ _ _ _ (ih _ n s' M' F' a' w' e2 (by simp [hsz]) h1 h2)⟩
          split
          · rename_i hw
            rw [if_pos hw] at hx
            exact .inl (Oper.wp_mono fin hx)
          · rename_i hw
            rw [if_neg hw] at hx
            exact fin _ _ hx
theorem drawp_sound {id : Nat} {ops : Array Oper} {dt : DT} {oL : AOper} {s : DS} {M : Hnd} {F : Frz} {a : Act} {w : World} {K : DS → Prop} {Z : DV → DS → Prop} {Q : Exit → Act → World → Prop} (h : mkDL P ops = some (dt, oL)) (hi : Inv O F0 w0 M F s.env s.mem a w)
    (hK : dDT P dt s fun s' => dOpP P oL s' (fun s'' => kS ⟨s''.env, msort s''.mem⟩ K) Z) (hQ : ∀ a w, Gd O F0 w0 K a w → Q .normal a w) (hP : ∀ chain a w, PanOK O F0 w0 Z chain a w → Q (.panic chain) a w) : (Code.region id ops true).wp P Q a w := by
  unfold mkDL at h
  split at h <;> try (cases h; done)
  rename_i hm
  simp only [Bool.and_eq_true] at hm
  split at h <;> try (cases h; done)
  rename_i al hal
  split at h <;> try (cases h; done)
  rename_i o ho
  split at h <;> try (cases h; done)
  simp only [Option.map_eq_some_iff, Prod.mk.injEq] at h
  obtain ⟨t, ht, rfl, rfl⟩ := h
  refine wp_mono (Q := QPn O F0 w0 K Z) (wp_region_any hm.1 (wpAny_of_X (F := F) (e := extL al (ops.size - 1)) (Qf := QfL (ops.size - 1) O F0 w0 K Z) (N := Gd O F0 w0 K) (fun _ _ h => h) (fun i c a w hh => ?_) (fun i hh => ?_) _ _ _ _ (buildL_sound hal hm.2 ho _ _ t s M F a _ ht (by simp) hi.drew hK))) ?_
  · unfold QfL at hh
    split at hh
    · exact hh
    · exact hh.elim
  · unfold QfL at hh
    split at hh
    · exact hh
    · obtain ⟨_, _, hh⟩ := hh
      exact hh.elim
  · intro e a w hq
    cases e <;> first | exact hQ a w hq | exact hP _ a w hq | exact hq.elim
theorem trCode_cases {fl : List Nat} {c : Code} {ac : AC} (h : trCodeF P fl c = some (strip ac)) : (∃ k ac', ac = .fz k ac') ∨ (∀ k ac', ac ≠ .fz k ac') := by
  cases ac <;> first | exact .inl ⟨_, _, rfl⟩ | exact .inr (by intros; simp)
theorem dwp_sound {fl : List Nat} : ∀ (ac : AC) {c : Code} {s : DS} {M : Hnd} {F : Frz} {a : Act} {w : World} {Q : AE → DS → Prop}, trCodeF P fl c = some (strip ac) → Inv O F0 w0 M F s.env s.mem a w → dwp P ac s Q →
    c.wp P (Lft O F0 w0 Q) a w := by
  have scp : ∀ {ac : AC} {Q : AE → DS → Prop}, (∀ {c : Code} {a : Act} {w : World}, (∀ c', c ≠ .scope c') → trCodeF P fl c = some (strip ac) → (∃ s M F, Inv O F0 w0 M F s.env s.mem a w ∧ dwp P ac s Q) → c.wp P (Lft O F0 w0 Q) a w) →
      ∀ {c : Code} {a : Act} {w : World}, trCodeF P fl c = some (strip ac) → (∃ s M F, Inv O F0 w0 M F s.env s.mem a w ∧ dwp P ac s Q) → c.wp P (Lft O F0 w0 Q) a w := by
    intro ac Q H c
    induction c with
    | scope c ih =>
      intro a w h hh
      refine wp_scope_straight (wp_mono (ih h hh) fun e a w hq => ?_)
      cases e <;> first | exact hq | exact hq.elim
    | _ => intro a w h hh; exact H (by intros; simp) h hh
  intro ac
  induction ac with
  | fz k ac ih =>
    intro c s M F a w Q h hi hK
    obtain ⟨s', F', h1, _, h2⟩ := frzK_ok hi hK
    exact ih h h1 h2
  | bad =>
    intro c s M F a w Q h hi hK
    exact hK.elim
  | skip =>
    intro c s M F a w Q h hi hK
    refine scp (ac := .skip) ?_ h ⟨s, M, F, hi, hK⟩
    rintro c a w hns h ⟨s, M, F, hi, hK⟩
    cases c <;> simp only [trCodeF, trC, strip, Option.some.injEq] at h <;> first | exact wp_skip ⟨s, M, F, hi, hK⟩ | exact wp_label ⟨s, M, F, hi, hK⟩ | exact absurd rfl (hns _) | skip
    all_goals first | (cases h; done) | (rcases trReg_kind P _ _ _ with ⟨_, e⟩ | ⟨_, e⟩ | ⟨_, _, e⟩ | e <;> rw [e] at h <;> cases h; done) | (rcases trCnd_kind _ _ _ with ⟨_, _, e⟩ | e <;> rw [e] at h <;> cases h; done)
  | ops l =>
    intro c s M F a w Q h hi hK
    refine scp (ac := .ops l) ?_ h ⟨s, M, F, hi, hK⟩
    rintro c a w hns h ⟨s, M, F, hi, hK⟩
    cases c <;> simp only [trCodeF, trC, strip, Option.some.injEq] at h <;> first | exact absurd rfl (hns _) | skip
    case region id ops d =>
      obtain ⟨rfl, h1⟩ := trReg_ops h
      exact wp_region_list (dOps_sound h1 hi hK fun a w hg => hg)
    all_goals first | (cases h; done) | (rcases trReg_kind P _ _ _ with ⟨_, e⟩ | ⟨_, e⟩ | ⟨_, _, e⟩ | e <;> rw [e] at h <;> cases h; done) | (rcases trCnd_kind _ _ _ with ⟨_, _, e⟩ | e <;> rw [e] at h <;> cases h; done)
  | opsp l =>
    intro c s M F a w Q h hi hK
    refine scp (ac := .opsp l) ?_ h ⟨s, M, F, hi, hK⟩
    rintro c a w hns h ⟨s, M, F, hi, hK⟩
    cases c <;> simp only [trCodeF, trC, strip, Option.some.injEq] at h <;> first | exact absurd rfl (hns _) | skip
    case region id ops d =>
      obtain ⟨rfl, h1⟩ := trReg_ops h
      exact wp_region_list (dOpsP_sound h1 hi hK (fun a w hg => hg) (fun ch a w hp => hp))
    all_goals first | (cases h; done) | (rcases trReg_kind P _ _ _ with ⟨_, e⟩ | ⟨_, e⟩ | ⟨_, _, e⟩ | e <;> rw [e] at h <;> cases h; done) | (rcases trCnd_kind _ _ _ with ⟨_, _, e⟩ | e <;> rw [e] at h <;> cases h; done)
  | draw t =>
    intro c s M F a w Q h hi hK
    refine scp (ac := .draw t) ?_ h ⟨s, M, F, hi, hK⟩
    rintro c a w hns h ⟨s, M, F, hi, hK⟩
    cases c <;> simp only [trCodeF, trC, strip, Option.some.injEq] at h <;> first | exact absurd rfl (hns _) | skip
    case region id ops d =>
      obtain ⟨rfl, h1⟩ := trReg_draw h
      exact draw_sound h1 hi hK fun a w hg => hg
    all_goals first | (cases h; done) | (rcases trReg_kind P _ _ _ with ⟨_, e⟩ | ⟨_, e⟩ | ⟨_, _, e⟩ | e <;> rw [e] at h <;> cases h; done) | (rcases trCnd_kind _ _ _ with ⟨_, _, e⟩ | e <;> rw [e] at h <;> cases h; done)
  | drawp t o =>
    intro c s M F a w Q h hi hK
    refine scp (ac := .drawp t o) ?_ h ⟨s, M, F, hi, hK⟩
    rintro c a w hns h ⟨s, M, F, hi, hK⟩
    cases c <;> simp only [trCodeF, trC, strip, Option.some.injEq] at h <;> first | exact absurd rfl (hns _) | skip
    case region id ops d =>
      obtain ⟨rfl, h1⟩ := trReg_drawp h
      exact drawp_sound h1 hi hK (fun a w hg => hg) (fun ch a w hp => hp)
    all_goals first | (cases h; done) | (rcases trReg_kind P _ _ _ with ⟨_, e⟩ | ⟨_, e⟩ | ⟨_, _, e⟩ | e <;> rw [e] at h <;> cases h; done) | (rcases trCnd_kind _ _ _ with ⟨_, _, e⟩ | e <;> rw [e] at h <;> cases h; done)
  | seq x y ihx ihy =>
    intro c s M F a w Q h hi hK
    refine scp (ac := .seq x y) ?_ h ⟨s, M, F, hi, hK⟩
    rintro c a w hns h ⟨s, M, F, hi, hK⟩
    cases c <;> simp only [trCodeF, trC, strip, Option.some.injEq] at h <;> first | exact absurd rfl (hns _) | skip
    case seq cx cy =>
      simp only [AC.seq.injEq] at h
      obtain ⟨h1, h2⟩ := h
      refine wp_seq (wp_mono (ihx (congrArg some h1) hi hK) fun e a w hq => ?_)
      cases e with
      | normal =>
        obtain ⟨s', M', F', hi', hK'⟩ := hq
        exact ihy (congrArg some h2) hi' hK'
      | exit id => exact hq
      | ret => exact hq
      | panic ch => exact hq
      | _ => exact hq.elim
    all_goals first | (cases h; done) | (rcases trReg_kind P _ _ _ with ⟨_, e⟩ | ⟨_, e⟩ | ⟨_, _, e⟩ | e <;> rw [e] at h <;> cases h; done) | (rcases trCnd_kind _ _ _ with ⟨_, _, e⟩ | e <;> rw [e] at h <;> cases h; done)
  | cond x l r ihl ihr =>
    intro c s M F a w Q h hi hK
    refine scp (ac := .cond x l r) ?_ h ⟨s, M, F, hi, hK⟩
    rintro c a w hns h ⟨s, M, F, hi, hK⟩
    cases c <;> simp only [trCodeF, trC, strip, Option.some.injEq] at h <;> first | exact absurd rfl (hns _) | skip
    case cond cc cx cy =>
      rcases trCnd_kind (trX cc) (trC P fl cx) (trC P fl cy) with ⟨x', h0, e⟩ | e
      · rw [e] at h
        simp only [AC.cond.injEq] at h
        obtain ⟨rfl, h1, h2⟩ := h
        have h1 : trCodeF P fl cx = some (strip l) := congrArg some h1
        have h2 : trCodeF P fl cy = some (strip r) := congrArg some h2
        have hv := trX_ok h0 hi
        have hK : kCond (ev s.env x') (dwp P l s Q) (dwp P r s Q) := hK
        cases hd : ev s.env x' <;> rw [hd] at hK hv <;> first | exact hK.elim | skip
        exact wp_cond_split (RV_bool hv) (fun e => ihl h1 hi (hK.1 e)) (fun e => ihr h2 hi (hK.2 e))
      · rw [e] at h
        cases h
    all_goals first | (cases h; done) | (rcases trReg_kind P _ _ _ with ⟨_, e⟩ | ⟨_, e⟩ | ⟨_, _, e⟩ | e <;> rw [e] at h <;> cases h; done) | (rcases trCnd_kind _ _ _ with ⟨_, _, e⟩ | e <;> rw [e] at h <;> cases h; done)
  | block id x ih =>
    intro c s M F a w Q h hi hK
    refine scp (ac := .block id x) ?_ h ⟨s, M, F, hi, hK⟩
    rintro c a w hns h ⟨s, M, F, hi, hK⟩
    cases c <;> simp only [trCodeF, trC, strip, Option.some.injEq] at h <;> first | exact absurd rfl (hns _) | skip
    case block id' cx =>
      simp only [AC.block.injEq] at h
      obtain ⟨rfl, h1⟩ := h
      refine wp_block (wp_mono (ih (congrArg some h1) hi hK) fun e a w hq => ?_)
      cases e with
      | normal => exact hq
      | ret => exact hq
      | panic ch => exact hq
      | exit i =>
        obtain ⟨s', M', F', hi', hK'⟩ := hq
        simp only [kBlk] at hK'
        simp only [Exit.inBlock]
        split
        · rename_i e; rw [if_pos e] at hK'; exact ⟨s', M', F', hi', hK'⟩
        · rename_i e; rw [if_neg e] at hK'; exact ⟨s', M', F', hi', hK'⟩
      | _ => exact hq.elim
    all_goals first | (cases h; done) | (rcases trReg_kind P _ _ _ with ⟨_, e⟩ | ⟨_, e⟩ | ⟨_, _, e⟩ | e <;> rw [e] at h <;> cases h; done) | (rcases trCnd_kind _ _ _ with ⟨_, _, e⟩ | e <;> rw [e] at h <;> cases h; done)
  | loop x ih =>
    intro c s M F a w Q h hi hK
    refine scp (ac := .loop x) ?_ h ⟨s, M, F, hi, hK⟩
    rintro c a w hns h ⟨s, M, F, hi, hK⟩
    cases c <;> simp only [trCodeF, trC, strip, Option.some.injEq] at h <;> first | exact absurd rfl (hns _) | skip
    case loop cx =>
      simp only [AC.loop.injEq] at h
      have h1 : trCodeF P fl cx = some (strip x) := congrArg some h
      obtain ⟨I, n, ts, ks, hI, round⟩ := hK
      refine wp_loop_ghost (fun n a w => ∃ s M F, Inv O F0 w0 M F s.env s.mem a w ∧ I n s) n ⟨_, M, F, forget_ok ts ks hi, hI⟩ ?_
      rintro n a w ⟨s, M, F, hi, hI⟩
      refine wp_mono (ih h1 hi (round n s hI)) fun e a w hq => ?_
      cases e with
      | normal =>
        obtain ⟨s', M', F', hi', m, ts', ks', hlt, hI'⟩ := hq
        exact ⟨m, hlt, _, M', F', forget_ok ts' ks' hi', hI'⟩
      | exit id => exact hq
      | ret => exact hq
      | panic ch => exact hq
      | _ => exact hq.elim
    all_goals first | (cases h; done) | (rcases trReg_kind P _ _ _ with ⟨_, e⟩ | ⟨_, e⟩ | ⟨_, _, e⟩ | e <;> rw [e] at h <;> cases h; done) | (rcases trCnd_kind _ _ _ with ⟨_, _, e⟩ | e <;> rw [e] at h <;> cases h; done)
  | exit id =>
    intro c s M F a w Q h hi hK
    refine scp (ac := .exit id) ?_ h ⟨s, M, F, hi, hK⟩
    rintro c a w hns h ⟨s, M, F, hi, hK⟩
    cases c <;> simp only [trCodeF, trC, strip, Option.some.injEq] at h <;> first | exact absurd rfl (hns _) | skip
    case exit id' => cases h; exact wp_exit ⟨s, M, F, hi, hK⟩
    all_goals first | (cases h; done) | (rcases trReg_kind P _ _ _ with ⟨_, e⟩ | ⟨_, e⟩ | ⟨_, _, e⟩ | e <;> rw [e] at h <;> cases h; done) | (rcases trCnd_kind _ _ _ with ⟨_, _, e⟩ | e <;> rw [e] at h <;> cases h; done)
  | ret =>
    intro c s M F a w Q h hi hK
    refine scp (ac := .ret) ?_ h ⟨s, M, F, hi, hK⟩
    rintro c a w hns h ⟨s, M, F, hi, hK⟩
    cases c <;> simp only [trCodeF, trC, strip, Option.some.injEq] at h <;> first | exact absurd rfl (hns _) | skip
    case ret => exact wp_ret ⟨s, M, F, hi, hK⟩
    all_goals first | (cases h; done) | (rcases trReg_kind P _ _ _ with ⟨_, e⟩ | ⟨_, e⟩ | ⟨_, _, e⟩ | e <;> rw [e] at h <;> cases h; done) | (rcases trCnd_kind _ _ _ with ⟨_, _, e⟩ | e <;> rw [e] at h <;> cases h; done)
end
end Go.Proofs.YtcolebkklojccaaGreat.E
