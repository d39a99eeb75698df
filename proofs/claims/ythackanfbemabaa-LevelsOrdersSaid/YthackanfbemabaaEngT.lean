/-
  The engine, part T: code, results, contracts.
-/
import Derived.Test.YthackanfbemabaaEngO
set_option linter.unusedVariables false
set_option linter.unusedSimpArgs false
set_option linter.unusedSimpArgs false
namespace Go.Proofs.Ythackanfbemabaa.E
open Go

def trCode (P : Program) : Code → Option AC
  | .skip => some .skip
  | .region _ ops d => match d with
    | false => (trOpers P ops ops.toList).map .ops
    | true => (mkDT P ops).map .draw
  | .seq a b => match trCode P a, trCode P b with
    | some x, some y => some (.seq x y)
    | _, _ => none
  | .cond c a b => match trX c, trCode P a, trCode P b with
    | some c, some x, some y => some (.cond c x y)
    | _, _, _ => none
  | .block id c => (trCode P c).map (.block id)
  | .loop c => (trCode P c).map .loop
  | .exit id => some (.exit id)
  | .scope c => trCode P c
  | .label _ => some .skip
  | .ret => some .ret
  | _ => none

def Lft (O : Nat → Prop) (F0 : Frz) (w0 : World) (Q : AE → DS → Prop) : Exit → Act → World → Prop
  | .normal, a, w => Gd O F0 w0 (Q .normal) a w
  | .exit id, a, w => Gd O F0 w0 (Q (.exit id)) a w
  | .ret, a, w => Gd O F0 w0 (Q .ret) a w
  | _, _, _ => False

section
variable {P : Program} {O : Nat → Prop} {F0 : Frz} {w0 : World}

theorem forgetE_ok (ts : List Nat) : ∀ (env : List DV), All2 (fun d d' => d' = d ∨ d' = .any) env (forgetE ts env) := by
  induction ts with
  | nil =>
    intro env
    exact All2.of_get rfl fun i d v h1 h2 => by simp only [forgetE] at h2; rw [h1] at h2; cases h2; exact .inl rfl
  | cons t ts ih =>
    intro env
    have h1 := ih (stp env t .any)
    refine All2.of_get (by simp only [forgetE]; rw [h1.length, stp_eq]; simp) fun i d v g1 g2 => ?_
    simp only [forgetE] at g2
    have hlt : i < env.length := (List.getElem?_eq_some_iff.1 g1).1
    by_cases hit : i = t
    · subst hit
      obtain ⟨v', e, r⟩ := h1.get i .any (by rw [stp_eq]; simp [hlt])
      rw [g2] at e; cases e
      exact .inr (r.elim id id)
    · obtain ⟨v', e, r⟩ := h1.get i d (by rw [stp_eq, List.getElem?_set_ne (fun h => hit h.symm)]; exact g1)
      rw [g2] at e; cases e
      exact r
theorem mdels_ok {M : Hnd} {F : Frz} {env : List DV} {a : Act} {w : World} : ∀ (ks : List Nat) {mem : Mem}, Inv O F0 w0 M F env mem a w → Inv O F0 w0 M F env (mdels ks mem) a w
  | [], _, h => h
  | k :: ks, _, h => (mdels_ok ks h).mdel k
theorem forget_ok {M : Hnd} {F : Frz} {a : Act} {w : World} {s : DS} (ts ks : List Nat) (h : Inv O F0 w0 M F s.env s.mem a w) : Inv O F0 w0 M F (forget ts ks s).env (forget ts ks s).mem a w :=
  ((mdels_ok ks h).weaken (forgetE_ok ts s.env)).memCongr (mget_msort _)

theorem trCode_cases {c : Code} {ac : AC} (h : trCode P c = some (strip ac)) : (∃ k ac', ac = .fz k ac') ∨ (∀ k ac', ac ≠ .fz k ac') := by
  cases ac <;> first | exact .inl ⟨_, _, rfl⟩ | exact .inr (by intros; simp)
theorem dwp_sound : ∀ (ac : AC) {c : Code} {s : DS} {M : Hnd} {F : Frz} {a : Act} {w : World} {Q : AE → DS → Prop}, trCode P c = some (strip ac) → Inv O F0 w0 M F s.env s.mem a w → dwp P ac s Q →
    c.wp P (Lft O F0 w0 Q) a w := by
  have scp : ∀ {ac : AC} {Q : AE → DS → Prop}, (∀ {c : Code} {a : Act} {w : World}, (∀ c', c ≠ .scope c') → trCode P c = some (strip ac) → (∃ s M F, Inv O F0 w0 M F s.env s.mem a w ∧ dwp P ac s Q) → c.wp P (Lft O F0 w0 Q) a w) →
      ∀ {c : Code} {a : Act} {w : World}, trCode P c = some (strip ac) → (∃ s M F, Inv O F0 w0 M F s.env s.mem a w ∧ dwp P ac s Q) → c.wp P (Lft O F0 w0 Q) a w := by
    intro ac Q H c
    induction c with
    | scope c ih =>
      intro a w h hh
      refine wp_scope_straight (wp_mono (ih h hh) fun e a w hq => ?_)
      cases e <;> first | exact hq | exact hq.elim
    | _ => intro a w h hh; exact H (by intros; simp) h hh
  intro ac
  induction ac with
  | fz k ac ih =>
    intro c s M F a w Q h hi hK
    obtain ⟨s', F', h1, _, h2⟩ := frzK_ok hi hK
    exact ih h h1 h2
  | skip =>
    intro c s M F a w Q h hi hK
    refine scp (ac := .skip) ?_ h ⟨s, M, F, hi, hK⟩
    rintro c a w hns h ⟨s, M, F, hi, hK⟩
    cases c <;> simp only [trCode, strip] at h <;> first | exact wp_skip ⟨s, M, F, hi, hK⟩ | exact wp_label ⟨s, M, F, hi, hK⟩ | exact absurd rfl (hns _) | skip
    all_goals first | (cases h; done) | (split at h <;> first | (cases h; done) | (simp at h)) | (simp at h; done)
  | ops l =>
    intro c s M F a w Q h hi hK
    refine scp (ac := .ops l) ?_ h ⟨s, M, F, hi, hK⟩
    rintro c a w hns h ⟨s, M, F, hi, hK⟩
    cases c <;> simp only [trCode, strip] at h <;> first | exact absurd rfl (hns _) | skip
    case region id ops d =>
      cases d with
      | true => simp at h
      | false =>
        simp only [Option.map_eq_some_iff] at h
        obtain ⟨al, h1, h2⟩ := h
        cases h2
        exact wp_region_list (dOps_sound h1 hi hK fun a w hg => hg)
    all_goals first | (cases h; done) | (split at h <;> first | (cases h; done) | (simp at h)) | (simp at h; done)
  | draw t =>
    intro c s M F a w Q h hi hK
    refine scp (ac := .draw t) ?_ h ⟨s, M, F, hi, hK⟩
    rintro c a w hns h ⟨s, M, F, hi, hK⟩
    cases c <;> simp only [trCode, strip] at h <;> first | exact absurd rfl (hns _) | skip
    case region id ops d =>
      cases d with
      | false => simp at h
      | true =>
        simp only [Option.map_eq_some_iff] at h
        obtain ⟨al, h1, h2⟩ := h
        cases h2
        exact draw_sound h1 hi hK fun a w hg => hg
    all_goals first | (cases h; done) | (split at h <;> first | (cases h; done) | (simp at h)) | (simp at h; done)
  | seq x y ihx ihy =>
    intro c s M F a w Q h hi hK
    refine scp (ac := .seq x y) ?_ h ⟨s, M, F, hi, hK⟩
    rintro c a w hns h ⟨s, M, F, hi, hK⟩
    cases c <;> simp only [trCode, strip] at h <;> first | exact absurd rfl (hns _) | skip
    case seq cx cy =>
      split at h <;> try (cases h; done)
      rename_i x' y' h1 h2
      simp only [Option.some.injEq, AC.seq.injEq] at h
      obtain ⟨rfl, rfl⟩ := h
      refine wp_seq (wp_mono (ihx h1 hi hK) fun e a w hq => ?_)
      cases e with
      | normal =>
        obtain ⟨s', M', F', hi', hK'⟩ := hq
        exact ihy h2 hi' hK'
      | exit id => exact hq
      | ret => exact hq
      | _ => exact hq.elim
    all_goals first | (cases h; done) | (split at h <;> first | (cases h; done) | (simp at h)) | (simp at h; done)
  | cond x l r ihl ihr =>
    intro c s M F a w Q h hi hK
    refine scp (ac := .cond x l r) ?_ h ⟨s, M, F, hi, hK⟩
    rintro c a w hns h ⟨s, M, F, hi, hK⟩
    cases c <;> simp only [trCode, strip] at h <;> first | exact absurd rfl (hns _) | skip
    case cond cc cx cy =>
      split at h <;> try (cases h; done)
      rename_i x' l' r' h0 h1 h2
      simp only [Option.some.injEq, AC.cond.injEq] at h
      obtain ⟨rfl, rfl, rfl⟩ := h
      have hv := trX_ok h0 hi
      have hK : kCond (ev s.env x') (dwp P l s Q) (dwp P r s Q) := hK
      cases hd : ev s.env x' <;> rw [hd] at hK hv <;> first | exact hK.elim | skip
      exact wp_cond_split (RV_bool hv) (fun e => ihl h1 hi (hK.1 e)) (fun e => ihr h2 hi (hK.2 e))
    all_goals first | (cases h; done) | (split at h <;> first | (cases h; done) | (simp at h)) | (simp at h; done)
  | block id x ih =>
    intro c s M F a w Q h hi hK
    refine scp (ac := .block id x) ?_ h ⟨s, M, F, hi, hK⟩
    rintro c a w hns h ⟨s, M, F, hi, hK⟩
    cases c <;> simp only [trCode, strip] at h <;> first | exact absurd rfl (hns _) | skip
    case block id' cx =>
      simp only [Option.map_eq_some_iff] at h
      obtain ⟨x', h1, h2⟩ := h
      cases h2
      refine wp_block (wp_mono (ih h1 hi hK) fun e a w hq => ?_)
      cases e with
      | normal => exact hq
      | ret => exact hq
      | exit i =>
        obtain ⟨s', M', F', hi', hK'⟩ := hq
        simp only [kBlk] at hK'
        simp only [Exit.inBlock]
        split
        · rename_i e; rw [if_pos e] at hK'; exact ⟨s', M', F', hi', hK'⟩
        · rename_i e; rw [if_neg e] at hK'; exact ⟨s', M', F', hi', hK'⟩
      | _ => exact hq.elim
    all_goals first | (cases h; done) | (split at h <;> first | (cases h; done) | (simp at h)) | (simp at h; done)
  | loop x ih =>
    intro c s M F a w Q h hi hK
    refine scp (ac := .loop x) ?_ h ⟨s, M, F, hi, hK⟩
    rintro c a w hns h ⟨s, M, F, hi, hK⟩
    cases c <;> simp only [trCode, strip] at h <;> first | exact absurd rfl (hns _) | skip
    case loop cx =>
      simp only [Option.map_eq_some_iff] at h
      obtain ⟨x', h1, h2⟩ := h
      cases h2
      obtain ⟨I, n, ts, ks, hI, round⟩ := hK
      refine wp_loop_ghost (fun n a w => ∃ s M F, Inv O F0 w0 M F s.env s.mem a w ∧ I n s) n ⟨_, M, F, forget_ok ts ks hi, hI⟩ ?_
      rintro n a w ⟨s, M, F, hi, hI⟩
      refine wp_mono (ih h1 hi (round n s hI)) fun e a w hq => ?_
      cases e with
      | normal =>
        obtain ⟨s', M', F', hi', m, ts', ks', hlt, hI'⟩ := hq
        exact ⟨m, hlt, _, M', F', forget_ok ts' ks' hi', hI'⟩
      | exit id => exact hq
      | ret => exact hq
      | _ => exact hq.elim
    all_goals first | (cases h; done) | (split at h <;> first | (cases h; done) | (simp at h)) | (simp at h; done)
  | exit id =>
    intro c s M F a w Q h hi hK
    refine scp (ac := .exit id) ?_ h ⟨s, M, F, hi, hK⟩
    rintro c a w hns h ⟨s, M, F, hi, hK⟩
    cases c <;> simp only [trCode, strip] at h <;> first | exact absurd rfl (hns _) | skip
    case exit id' => cases h; exact wp_exit ⟨s, M, F, hi, hK⟩
    all_goals first | (cases h; done) | (split at h <;> first | (cases h; done) | (simp at h)) | (simp at h; done)
  | ret =>
    intro c s M F a w Q h hi hK
    refine scp (ac := .ret) ?_ h ⟨s, M, F, hi, hK⟩
    rintro c a w hns h ⟨s, M, F, hi, hK⟩
    cases c <;> simp only [trCode, strip] at h <;> first | exact absurd rfl (hns _) | skip
    case ret => exact wp_ret ⟨s, M, F, hi, hK⟩
    all_goals first | (cases h; done) | (split at h <;> first | (cases h; done) | (simp at h)) | (simp at h; done)
end
end Go.Proofs.Ythackanfbemabaa.E
