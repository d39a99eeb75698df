/-
  The engine, part P: every step is sound; so is a plain region.
-/
import Derived.Test.YtcolebkklojccaaGreatEngN
import Derived.Lib.SliceRun
import Derived.Laws.Cover3
set_option linter.unusedVariables false
set_option linter.unusedSimpArgs false
set_option linter.unusedSimpArgs false
namespace Go.Proofs.YtcolebkklojccaaGreat.E
open Go

section
variable {P : Program} {O : Nat → Prop} {F0 : Frz} {w0 : World} {M : Hnd} {F F' : Frz} {a : Act} {w w' : World} {s : DS} {K : DS → Prop} {Q : Exit → Act → World → Prop} {o : Oper}

def plainK : AOp → Bool
  | .call false _ _ => false
  | .app _ _ _ _ _ => false
  | .buildSl _ _ _ _ _ => false
  | _ => true
theorem strip_eq {ao x : AOp} (h : x = stripOp ao) (hx : plainK x = true) : ao = x := by
  cases ao <;> first | exact h.symm | (subst h; simp [stripOp, plainK] at hx)
theorem strip_app {ao : AOp} {e sz b : Nat} {s x : AX} (h : AOp.app e sz b s x = stripOp ao) : ao = .app e sz b s x ∨ ao = .appn e sz b s x := by
  cases ao <;> simp only [stripOp] at h <;> first | (cases h; done) | exact .inl h.symm | (cases h; exact .inr rfl)
theorem strip_bs {ao : AOp} {e sz len : Nat} {zs : List DV} {ps : List (Nat × AX)} (h : AOp.buildSl e sz len zs ps = stripOp ao) : ao = .buildSl e sz len zs ps ∨ (len = 0 ∧ ps = [] ∧ ao = .bs0 e sz zs) := by
  cases ao <;> simp only [stripOp] at h <;> first | (cases h; done) | exact .inl h.symm | (cases h; exact .inr ⟨rfl, rfl, rfl⟩)
theorem isNilS_eval {y : Operand} (h : isNilS y = true) : a.eval y = .slice none 0 0 := by
  unfold isNilS at h
  split at h
  · rfl
  · cases h
theorem sound_isn (hi : Inv O F0 w0 M F s.env s.mem a w) {ne : Bool} {t t' e : TypeId} {x y : Operand} {ax : AX} (ho : o.op = .binOp (if ne then .neq else .eql) t x y t') (ht : P.underlying t = some (.slice e)) (hy : isNilS y = true)
    (hx : trX x = some ax) (hK : kIsn ne (ev s.env ax) s.mem (kPut o.dst s K)) : o.wp P a w (Gd O F0 w0 K) Q := by
  have h1 := trX_ok hx hi
  have e2 := isNilS_eval (a := a) hy
  have fin : ∀ (A : Option Addr) (n c : Nat), a.eval x = .slice A n c → (A = none → kPut o.dst s K (.bool !ne)) → kPut o.dst s K (.bool ne) → o.wp P a w (Gd O F0 w0 K) Q := by
    intro A n c e1 k1 k2
    have hg : eqGuard (if ne then .neq else .eql) t x y (a.eval x) (a.eval y) = pure () := by
      rw [e1, e2]
      cases ne <;> simp [eqGuard]
    cases A with
    | none =>
      refine wp_put (v := .bool (!ne)) (run_bin ho hg ?_) hi (mk_bool _) (k1 rfl)
      rw [e1, e2]
      cases ne with
      | false => exact Lib.run_eql_slice_nil w t e _ _ _ _ _ ht
      | true => exact run_neq_slice_nil w t e _ _ _ ht
    | some A =>
      refine wp_put (v := .bool ne) (run_bin ho hg ?_) hi (mk_bool _) k2
      rw [e1, e2]
      cases ne with
      | false => exact Lib.run_eql_slice_nil w t e _ _ _ _ _ ht
      | true => exact run_neq_slice_nil w t e _ _ _ ht
  cases hd : ev s.env ax <;> rw [hd] at hK h1 <;> first | exact hK.elim | skip
  · rename_i sz xs
    obtain ⟨A, cap, e1, c1, c2, c3, c4⟩ := RV_sl h1
    refine fin A _ _ e1 (fun hA => hK.1 ?_) hK.2
    have := c3 hA
    exact List.eq_nil_of_length_eq_zero (by omega)
  · obtain ⟨A, e1⟩ := RV_e0 h1
    exact fin A _ _ e1 (fun _ => hK.1) hK.2
  · rename_i k
    simp only [kIsn] at hK
    cases hm : mget s.mem k with
    | none => rw [hm] at hK; exact hK.elim
    | some blk =>
      rw [hm] at hK
      cases blk with
      | box cs => exact hK.elim
      | mp kk es => exact hK.elim
      | vec e' sz xs =>
        obtain ⟨k1, k2⟩ := hK
        obtain ⟨A, cap, e1, _, _, e3⟩ := (hi.vec hm h1).slice
        exact fin A _ _ e1 (fun hA => k1 (List.eq_nil_of_length_eq_zero (e3 hA).1)) k2
theorem dRun_sound (hi : Inv O F0 w0 M F s.env s.mem a w) {ao : AOp} (h : trOp P o.op = some (stripOp ao)) (hd : dstOK (stripOp ao) o.dst = true) (hK : dRun P ao s o.dst K) : o.wp P a w (Gd O F0 w0 K) Q := by
  have key : ∀ {x : AOp}, x = stripOp ao → plainK x = true → dRun P x s o.dst K ∧ dstOK x o.dst = true := by
    intro x e1 e2
    have e3 := strip_eq e1 e2
    subst e3
    exact ⟨hK, e1 ▸ hd⟩
  cases hop : o.op <;> rw [hop] at h <;> simp only [trOp] at h <;> try (cases h; done)
  case move x =>
    simp only [Option.map_eq_some_iff] at h
    obtain ⟨ax, h1, h2⟩ := h
    exact sound_mv hi (.inl hop) h1 (key h2 rfl).1
  case assign x =>
    simp only [Option.map_eq_some_iff] at h
    obtain ⟨ax, h1, h2⟩ := h
    exact sound_mv hi (.inr hop) h1 (key h2 rfl).1
  case pick c x y =>
    split at h <;> try (cases h; done)
    rename_i ac ax ay h1 h2 h3
    simp only [Option.some.injEq] at h
    exact sound_pick hi hop h1 h2 h3 (key h rfl).1
  case alloc t =>
    simp only [Option.map_eq_some_iff] at h
    obtain ⟨zs, h1, h2⟩ := h
    have hk := (key h2 rfl).1
    cases hdst : o.dst with
    | none => rw [hdst] at hk; exact hk.elim
    | some d => exact Oper.wp_mono (fun _ _ h => h.1) (sound_alloc hi hop h1 hdst (by rw [hdst] at hk ⊢; exact hk))
  case box t x =>
    simp only [Option.map_eq_some_iff] at h
    obtain ⟨ax, h1, h2⟩ := h
    exact Oper.wp_mono (fun _ _ h => h.1) (sound_box hi hop h1 (key h2 rfl).1)
  case build t parts =>
    split at h <;> try (cases h; done)
    · rename_i fs zs h1 h2
      split at h <;> try (cases h; done)
      rename_i h3
      simp only [Option.map_eq_some_iff] at h
      obtain ⟨aps, h4, h5⟩ := h
      exact sound_build_struct hi hop h1 h2 (fun f hf => List.all_eq_true.1 h3 f hf) h4 (key h5 rfl).1
    · rename_i n e zs h1 h2
      split at h <;> try (cases h; done)
      rename_i sz h3
      simp only [Option.map_eq_some_iff] at h
      obtain ⟨aps, h4, h5⟩ := h
      exact sound_build_array hi hop h1 h2 h3 h4 (key h5 rfl).1
  case buildSlice t len parts =>
    split at h <;> try (cases h; done)
    rename_i e h1
    split at h <;> try (cases h; done)
    rename_i sz zs ps h2 h3 h4
    split at h <;> try (cases h; done)
    rename_i h5
    simp only [Bool.and_eq_true, decide_eq_true_eq, beq_iff_eq] at h5
    simp only [Option.some.injEq] at h
    rcases strip_bs h with rfl | ⟨rfl, rfl, rfl⟩
    rotate_left
    · exact Oper.wp_mono (fun _ _ h => h.1) (sound_bs0 hi hop h1 h2 h4 hK)
    obtain ⟨s', F', hi', _, hk⟩ := frzArgs_ok hi (show frzArgs _ fuelF s _ from hK)
    cases hdst : o.dst with
    | none =>
      exfalso
      rw [hdst] at hk
      have : ∀ (env : List DV) (sz : Nat) (l : List (Nat × AX)) (xs : List (List DV)), ¬ rowsK env sz l xs (fun _ => False) := by
        intro env sz l
        induction l with
        | nil => intro xs h; exact h
        | cons p l ih =>
          intro xs h
          obtain ⟨i, x⟩ := p
          simp only [rowsK] at h
          cases hx : ev env x <;> rw [hx] at h <;> simp only [cellsK] at h <;> first | exact ih _ h.2.2.2 | exact ih _ h.2.2.2.2
      exact this _ _ _ _ hk
    | some d => exact Oper.wp_mono (fun _ _ h => h.1) (sound_buildSl hi' hop h1 h2 h3 h4 h5.1.1 h5.1.2 h5.2 hdst (by rw [hdst] at hk ⊢; exact hk))
  case load t p =>
    split at h <;> try (cases h; done)
    rename_i d n ap h1 h2 h3
    split at h <;> try (cases h; done)
    rename_i h4
    simp only [Option.some.injEq] at h
    exact sound_ld hi hop h1 h2 h4 h3 (key h rfl).1
  case store t p x =>
    split at h <;> try (cases h; done)
    rename_i n ap ax h1 h2 h3
    simp only [Option.some.injEq] at h
    obtain ⟨k1, k2⟩ := key h rfl
    exact sound_sto hi hop h1 h2 h3 k1 (by simpa [dstOK] using k2)
  case binOp op t x y yt =>
    split at h <;> try (cases h; done)
    rename_i ax ay h1 h2
    split at h
    · rename_i hu
      split at h <;> try (cases h; done)
      · simp only [Option.some.injEq] at h
        exact sound_beq (ne := false) hi hop hu h1 h2 (key h rfl).1
      · simp only [Option.some.injEq] at h
        exact sound_beq (ne := true) hi hop hu h1 h2 (key h rfl).1
    · simp only [Option.some.injEq] at h
      exact sound_bin hi hop h1 h2 (key h rfl).1
    · simp only [Option.some.injEq] at h
      exact sound_bin hi hop h1 h2 (key h rfl).1
    · rename_i e hu
      split at h <;> try (cases h; done)
      · split at h <;> try (cases h; done)
        rename_i hy
        simp only [Option.some.injEq] at h
        exact sound_isn (ne := false) hi hop hu hy h1 (key h rfl).1
      · split at h <;> try (cases h; done)
        rename_i hy
        simp only [Option.some.injEq] at h
        exact sound_isn (ne := true) hi hop hu hy h1 (key h rfl).1
    · split at h <;> try (cases h; done)
      rename_i ks hfl
      split at h <;> try (cases h; done)
      · simp only [Option.some.injEq] at h
        exact sound_eqa (ne := false) hi hop hfl h1 h2 (key h rfl).1
      · simp only [Option.some.injEq] at h
        exact sound_eqa (ne := true) hi hop hfl h1 h2 (key h rfl).1
  case unOp op t x =>
    split at h <;> try (cases h; done)
    · simp only [Option.map_eq_some_iff] at h
      obtain ⟨ax, h1, h2⟩ := h
      exact sound_nt hi hop h1 (key h2 rfl).1
    · simp only [Option.map_eq_some_iff] at h
      obtain ⟨ax, h1, h2⟩ := h
      exact sound_ng hi hop h1 (key h2 rfl).1
  case fieldAddr t p f =>
    split at h <;> try (cases h; done)
    rename_i fs ap h1 h2
    split at h <;> try (cases h; done)
    rename_i fd h3
    split at h <;> try (cases h; done)
    rename_i n h4
    split at h <;> try (cases h; done)
    rename_i h5
    simp only [Option.some.injEq] at h
    exact sound_fld hi hop h1 h3 h4 (by simpa using h5) h2 (key h rfl).1
  case field t x f =>
    split at h <;> try (cases h; done)
    rename_i fs ax h1 h2
    split at h <;> try (cases h; done)
    rename_i fd h3
    split at h <;> try (cases h; done)
    rename_i n d h4 h5
    simp only [Option.some.injEq] at h
    exact sound_fldv hi hop h1 h3 h4 h5 h2 (key h rfl).1
  case indexAddr t x i =>
    split at h <;> try (cases h; done)
    · rename_i e ax ai h1 h2 h3
      simp only [Option.map_eq_some_iff] at h
      obtain ⟨sz, h4, h5⟩ := h
      exact sound_ix hi hop h1 h4 h2 h3 (key h5 rfl).1
    · rename_i n e ax ai h1 h2 h3
      simp only [Option.map_eq_some_iff] at h
      obtain ⟨sz, h4, h5⟩ := h
      exact sound_ixp hi hop h1 h4 h2 h3 (key h5 rfl).1
  case index t x i =>
    split at h <;> try (cases h; done)
    · rename_i n e ax ai h1 h2 h3
      split at h <;> try (cases h; done)
      rename_i sz d h4 h5
      simp only [Option.some.injEq] at h
      exact sound_ixv hi hop h1 h4 h5 h2 h3 (key h rfl).1
    · rename_i ax ai h1 h2 h3
      simp only [Option.some.injEq] at h
      exact sound_ixs hi hop h1 h2 h3 (key h rfl).1
  case slice t x lo hi' mx =>
    split at h <;> try (cases h; done)
    · rename_i e ax alo ahi amx h1 h2 h3 h4 h5
      simp only [Option.map_eq_some_iff] at h
      obtain ⟨sz, h6, h7⟩ := h
      exact sound_sub hi hop h1 h6 h2 h3 h4 h5 (key h7 rfl).1
    · rename_i ax alo ahi h1 h2 h3 h4 h5
      simp only [Option.some.injEq] at h
      have : mx = none := by
        cases mx with
        | none => rfl
        | some m => simp [trO, Option.map_eq_some_iff] at h5
      subst this
      exact sound_subs hi hop h1 h2 h3 h4 (key h rfl).1
  case extract x i =>
    simp only [Option.map_eq_some_iff] at h
    obtain ⟨ax, h1, h2⟩ := h
    exact sound_ext hi hop h1 (key h2 rfl).1
  case convert src dst x =>
    split at h <;> try (cases h; done)
    · rename_i k0 k ax h1 h2 h3
      simp only [Option.some.injEq] at h
      exact sound_conv hi hop h1 h2 h3 (key h rfl).1
    · rename_i ax h1 h2 h3
      simp only [Option.some.injEq] at h
      exact sound_convs hi hop h1 h2 h3 (key h rfl).1
  case makeFunc fn first captured =>
    cases fn <;> simp only [trMkfn] at h <;> try (cases h; done)
    rename_i f
    split at h <;> try (cases h; done)
    rename_i hf
    simp only [Option.map_eq_some_iff] at h
    obtain ⟨as, h1, h2⟩ := h
    exact sound_mkfn hi hop hf h1 (key h2 rfl).1
  case nilCheck x =>
    simp only [Option.map_eq_some_iff] at h
    obtain ⟨ax, h1, h2⟩ := h
    exact sound_nck hi hop h1 (key h2 rfl).1
  case makeSlice t l c =>
    split at h <;> try (cases h; done)
    rename_i e al ac h1 h2 h3
    split at h <;> try (cases h; done)
    rename_i i zs h4 h5
    split at h <;> try (cases h; done)
    simp only [Option.some.injEq] at h
    exact sound_mks hi hop h1 h4 h5 h2 h3 (key h rfl).1
  case makeMap t r =>
    split at h <;> try (cases h; done)
    rename_i kk z ar h1 h2
    simp only [Option.some.injEq] at h
    exact sound_mkm hi hop h1 h2 (key h rfl).1
  case mapUpdate t m k v =>
    split at h <;> try (cases h; done)
    rename_i kk z am ak av h1 h2 h3 h4
    simp only [Option.some.injEq] at h
    have hk := key h rfl
    exact sound_mput hi hop h1 h2 h3 h4 (by simpa [dstOK] using hk.2) hk.1
  case lookup t x i ok =>
    cases ok <;> simp only at h <;> try (cases h; done)
    split at h <;> try (cases h; done)
    rename_i kk z am ak h1 h2 h3
    simp only [Option.some.injEq] at h
    exact sound_mlk hi hop h1 h2 h3 (key h rfl).1
  case call c =>
    obtain ⟨callee, args, argTypes⟩ := c
    have arr1 : ∀ {α : Type} {xs : Array α} {x : α}, xs.toList = [x] → xs = #[x] := fun h => by apply Array.ext'; simpa using h
    have arr2 : ∀ {α : Type} {xs : Array α} {x y : α}, xs.toList = [x, y] → xs = #[x, y] := fun h => by apply Array.ext'; simpa using h
    cases callee with
    | invoke x n => simp [trCall] at h
    | builtin b =>
      simp only [trCall] at h
      cases b <;> simp only [trBuiltin] at h <;> try (cases h; done)
      case len =>
        unfold trLen at h
        split at h <;> try (cases h; done)
        rename_i t x e1 e2
        have e1' := arr1 e1
        have e2' := arr1 e2
        subst e1'; subst e2'
        split at h <;> try (cases h; done)
        · rename_i ax h1 h2
          simp only [Option.some.injEq] at h
          exact sound_lens hi hop h1 h2 (key h rfl).1
        · rename_i e ax h1 h2
          simp only [Option.some.injEq] at h
          exact sound_len hi hop h1 h2 (key h rfl).1
        · rename_i n e ax h1
          simp only [Option.some.injEq] at h
          exact sound_lenc hi hop h1 (key h rfl).1
      case append =>
        unfold trApp at h
        split at h <;> try (cases h; done)
        rename_i t t' x y e1 e2
        have e1' := arr2 e1
        have e2' := arr2 e2
        subst e1'; subst e2'
        split at h <;> try (cases h; done)
        rename_i e ax ay h1 h2 h3
        split at h <;> try (cases h; done)
        rename_i i zs h4 h5
        split at h <;> try (cases h; done)
        rename_i h6
        simp only [Bool.and_eq_true, decide_eq_true_eq, beq_iff_eq] at h6
        obtain ⟨⟨rfl, h6⟩, h7⟩ := h6
        simp only [Option.some.injEq] at h
        rcases strip_app h with rfl | rfl
        · exact sound_app hi hop h1 h4 h5 h7 h6 h2 h3 hK
        · exact Oper.wp_mono (fun _ _ h => h.1) (sound_appn hi hop h1 h4 h5 h7 h6 h2 h3 hK)
      case delete =>
        unfold trRm at h
        split at h <;> try (cases h; done)
        rename_i t t' x y e1 e2
        have e1' := arr2 e1
        have e2' := arr2 e2
        subst e1'; subst e2'
        split at h <;> try (cases h; done)
        rename_i kk z am ak h1 h2 h3
        simp only [Option.some.injEq] at h
        have hk := key h rfl
        exact sound_mrm hi hop h1 h2 h3 (by simpa [dstOK] using hk.2) hk.1
      case max =>
        unfold trMm at h
        split at h <;> try (cases h; done)
        rename_i x y e2
        have e2' := arr2 e2
        subst e2'
        split at h <;> try (cases h; done)
        rename_i ax ay h1 h2
        simp only [Option.some.injEq] at h
        exact sound_mm (mx := true) hi hop h1 h2 (key h rfl).1
      case min =>
        unfold trMm at h
        split at h <;> try (cases h; done)
        rename_i x y e2
        have e2' := arr2 e2
        subst e2'
        split at h <;> try (cases h; done)
        rename_i ax ay h1 h2
        simp only [Option.some.injEq] at h
        exact sound_mm (mx := false) hi hop h1 h2 (key h rfl).1
    | value x =>
      simp only [trCall] at h
      unfold trFun at h
      split at h
      · rename_i f
        simp only [Option.map_eq_some_iff] at h
        obtain ⟨as, h1, h2⟩ := h
        cases ao <;> simp only [stripOp] at h2 <;> try (cases h2; done)
        simp only [AOp.call.injEq, true_and] at h2
        obtain ⟨rfl, rfl⟩ := h2
        exact sound_call hi hop h1 hK
      · split at h <;> try (cases h; done)
        rename_i ax as h1 h2
        simp only [Option.some.injEq] at h
        exact Oper.wp_mono (fun _ _ h => h.1) (sound_callv hi hop h1 h2 (key h rfl).1)
end
end Go.Proofs.YtcolebkklojccaaGreat.E
