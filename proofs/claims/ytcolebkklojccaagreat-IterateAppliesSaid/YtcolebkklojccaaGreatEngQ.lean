/-
  The engine, part Q: from the steps to regions, code, results and contracts.
-/
import Derived.Test.YtcolebkklojccaaGreatEngP
set_option linter.unusedVariables false
set_option linter.unusedSimpArgs false
set_option linter.unusedSimpArgs false
namespace Go.Proofs.YtcolebkklojccaaGreat.E
open Go

section
variable {P : Program} {O : Nat → Prop} {F0 : Frz} {w0 : World} {M : Hnd} {F F' : Frz} {a : Act} {w w' : World} {s : DS} {K : DS → Prop} {Q : Exit → Act → World → Prop} {o : Oper}

theorem Gd.mono {K' : DS → Prop} (h : ∀ s, K s → K' s) (hh : Gd O F0 w0 K a w) : Gd O F0 w0 K' a w := by
  obtain ⟨s, M, F, h1, h2⟩ := hh
  exact ⟨s, M, F, h1, h _ h2⟩

/-- what a guard says -/
theorem guard_ok {ops : Array Oper} (hi : Inv O F0 w0 M F s.env s.mem a w) {g : Option (Nat × Bool)} (hg : trG ops o.guard = some g) {A B : Prop} :
    (g = none → Region.wanted o (yielded ops a.tmps) = true) ∧ (∀ t want, g = some (t, want) → kGv (gt s.env t) want A B → if Region.wanted o (yielded ops a.tmps) then A else B) := by
  constructor
  · intro e
    subst e
    unfold Region.wanted
    cases hgd : o.guard with
    | none => rfl
    | some p =>
      obtain ⟨j, want⟩ := p
      rw [hgd] at hg
      simp only [trG] at hg
      split at hg <;> cases hg
  · rintro t want rfl hk
    cases hgd : o.guard with
    | none => rw [hgd] at hg; simp [trG] at hg
    | some p =>
      obtain ⟨j, want'⟩ := p
      have hw : Region.wanted o (yielded ops a.tmps) = (yielded ops a.tmps j == some want') := by unfold Region.wanted; rw [hgd]
      rw [hgd] at hg
      simp only [trG] at hg
      split at hg <;> try (cases hg; done)
      rename_i t' ht
      simp only [Option.some.injEq, Prod.mk.injEq] at hg
      obtain ⟨rfl, rfl⟩ := hg
      have hv := hi.get t'
      have hy : yielded ops a.tmps j = match a.tmps[t']? with | some (.bool b) => some b | _ => none := by
        unfold yielded
        rw [ht]
        rfl
      cases hd : gt s.env t' <;> rw [hd] at hk hv <;> simp only [kGv] at hk <;> try (exact hk.elim)
      · rename_i b
        have e := RV_bool hv
        have e2 : a.tmps[t']? = some (.bool b) := by
          cases h : a.tmps[t']? with
          | none => simp [h, undef] at e
          | some v => simp [h] at e; rw [e]
        rw [hy, e2] at hw
        by_cases hb : b = want'
        · subst hb
          rw [if_pos (by rw [hw]; simp)]
          exact hk.1 rfl
        · rw [if_neg (by rw [hw]; simpa using hb)]
          exact hk.2 hb
      · rename_i vs
        cases vs with
        | cons v vs => simp only [kGv] at hk
        | nil =>
          simp only [kGv] at hk
          obtain ⟨arr, e, h2⟩ := RV_tup hv
          have e2 : (match a.tmps[t']? with | some (.bool b) => some b | _ => none : Option Bool) = none := by
            cases h : a.tmps[t']? with
            | none => rfl
            | some v => simp [h] at e; subst e; rfl
          rw [hy, e2] at hw
          rw [if_neg (by rw [hw]; simp)]
          exact hk
theorem undef_tup : RV M F w (.tup []) undef := by
  show RF F w _ _
  rw [RF]
  exact ⟨#[], rfl, by rw [RFs]⟩
theorem trOper_ok {ops : Array Oper} {ao : AOper} (h : trOper P ops o = some (stripO ao)) : trOp P o.op = some (stripOp ao.op) ∧ trG ops o.guard = some ao.g ∧ ao.dst = o.dst ∧ dstOK (stripOp ao.op) o.dst = true := by
  unfold trOper at h
  split at h <;> try (cases h; done)
  rename_i op g h1 h2
  split at h <;> try (cases h; done)
  rename_i h3
  simp only [stripO, Option.some.injEq, AOper.mk.injEq] at h
  obtain ⟨e1, e2, e3⟩ := h
  subst e2; subst e3
  exact ⟨h1, h2, e1.symm, h3⟩
theorem dOp_sound {ops : Array Oper} (hi : Inv O F0 w0 M F s.env s.mem a w) {ao : AOper} (h : trOper P ops o = some (stripO ao)) (hK : dOp P ao s K) :
    if Region.wanted o (yielded ops a.tmps) then o.wp P a w (Gd O F0 w0 K) Q else Gd O F0 w0 K (a.put o.dst undef) w := by
  obtain ⟨h1, h2, h3, h4⟩ := trOper_ok h
  obtain ⟨adst, ag, aop⟩ := ao
  simp only at h3
  subst h3
  simp only at h1 h2 h4
  have hg := guard_ok (A := dRun P aop s o.dst K) (B := kPut o.dst s K (.tup [])) hi h2
  cases ag with
  | none =>
    rw [if_pos (hg.1 rfl)]
    exact dRun_sound hi h1 h4 hK
  | some p =>
    obtain ⟨t, want⟩ := p
    have := hg.2 t want rfl hK
    split
    · rename_i hw
      rw [if_pos hw] at this
      exact dRun_sound hi h1 h4 this
    · rename_i hw
      rw [if_neg hw] at this
      exact put_ok hi undef_tup this

theorem dOps_sound {ops : Array Oper} : ∀ {l : List Oper} {al : List AOper} {s : DS} {M : Hnd} {F : Frz} {a : Act} {w : World}, trOpers P ops l = some (stripL al) → Inv O F0 w0 M F s.env s.mem a w → dOps P al s K →
    (∀ a w, Gd O F0 w0 K a w → Q .normal a w) → wpList P ops Q l a w
  | [], al, s, M, F, a, w, h, hi, hK, hQ => by
      simp only [trOpers, Option.some.injEq] at h
      cases al with
      | nil => exact hQ a w ⟨s, M, F, hi, hK⟩
      | cons x al => simp [stripL] at h
  | o :: l, al, s, M, F, a, w, h, hi, hK, hQ => by
      simp only [trOpers] at h
      split at h <;> try (cases h; done)
      rename_i b bs h1 h2
      cases al with
      | nil => simp [stripL] at h
      | cons x al =>
        simp only [stripL, Option.some.injEq, List.cons.injEq] at h
        obtain ⟨rfl, rfl⟩ := h
        have hs := dOp_sound (Q := Q) hi h1 (K := fun s' => dOps P al s' K) hK
        have step : ∀ a' w', Gd O F0 w0 (fun s' => dOps P al s' K) a' w' → wpList P ops Q l a' w' := by
          rintro a' w' ⟨s', M', F', hi', hK'⟩
          exact dOps_sound h2 hi' hK' hQ
        unfold wpList
        split
        · rename_i hw
          rw [if_pos hw] at hs
          exact .inl (Oper.wp_mono step hs)
        · rename_i hw
          rw [if_neg hw] at hs
          exact step _ _ hs
end
end Go.Proofs.YtcolebkklojccaaGreat.E
