/-
  The engine, part W: one reading below another.
-/
import Derived.Test.YtcolebkklojccaaGreatEngT
set_option linter.unusedVariables false
set_option linter.unusedSimpArgs false
set_option linter.unusedSimpArgs false
namespace Go.Proofs.YtcolebkklojccaaGreat.E
open Go

def hE0 : DV → Prop
  | .e0 => True
  | .sl _ ys => ys = []
  | .any => True
  | _ => False
def hSl (s : Nat) (xs : List (List DV)) (R : List (List DV) → Prop) : DV → Prop
  | .sl s' ys => s = s' ∧ (xs = ys ∨ R ys)
  | .any => True
  | _ => False
def hAgg (cs : List DV) (R : List DV → Prop) : DV → Prop
  | .agg cs' => cs = cs' ∨ R cs'
  | .any => True
  | _ => False
def hTup (R : List DV → Prop) : DV → Prop
  | .tup cs' => R cs'
  | .any => True
  | _ => False
def hPf (cs : List DV) (R : List DV → Prop) : DV → Prop
  | .pf cs' => cs = cs' ∨ R cs'
  | .any => True
  | _ => False
def hInt (k : IntKind) (n : Int) : DV → Prop
  | .int k' n' => k = k' ∧ n = n'
  | .any => True
  | _ => False
def hStr (s : List UInt8) : DV → Prop
  | .str s' => s = s'
  | .any => True
  | _ => False
def hBool (b : Bool) : DV → Prop
  | .bool b' => b = b'
  | .any => True
  | _ => False
def hOth (d d' : DV) : Prop := d' = d ∨ d' = .any
mutual
/-- what reads as the one reads as the other -/
def subD : DV → DV → Prop
  | .e0, d' => hE0 d'
  | .sl s xs, d' => hSl s xs (fun ys => subE xs ys) d'
  | .agg cs, d' => hAgg cs (fun ys => subL cs ys) d'
  | .tup cs, d' => hTup (fun ys => subL cs ys) d'
  | .pf cs, d' => hPf cs (fun ys => subL cs ys) d'
  | .int k n, d' => hInt k n d'
  | .str s, d' => hStr s d'
  | .bool b, d' => hBool b d'
  | .any, d' => hOth .any d'
  | .fn f c, d' => hOth (.fn f c) d'
  | .nilp, d' => hOth .nilp d'
  | .nilfn, d' => hOth .nilfn d'
  | .nili, d' => hOth .nili d'
  | .ifc t v, d' => hOth (.ifc t v) d'
  | .aggm cs, d' => hOth (.aggm cs) d'
  | .ml k o, d' => hOth (.ml k o) d'
  | .ve k sz i o, d' => hOth (.ve k sz i o) d'
  | .ow k, d' => hOth (.ow k) d'
def subL : List DV → List DV → Prop
  | [], ys => ys = []
  | x :: xs, ys => match ys with
    | y :: ys => subD x y ∧ subL xs ys
    | [] => False
def subE : List (List DV) → List (List DV) → Prop
  | [], ys => ys = []
  | x :: xs, ys => match ys with
    | y :: ys => subL x y ∧ subE xs ys
    | [] => False
end
theorem subL_len : ∀ {xs ys : List DV}, subL xs ys → ys.length = xs.length
  | [], ys, h => by rw [subL] at h; subst h; rfl
  | x :: xs, [], h => by rw [subL] at h; exact h.elim
  | x :: xs, y :: ys, h => by rw [subL] at h; simp [subL_len h.2]
theorem subE_len : ∀ {xs ys : List (List DV)}, subE xs ys → ys.length = xs.length
  | [], ys, h => by rw [subE] at h; subst h; rfl
  | x :: xs, [], h => by rw [subE] at h; exact h.elim
  | x :: xs, y :: ys, h => by rw [subE] at h; simp [subE_len h.2]
theorem RF_any {F : Frz} {w : World} {v : Value} : RF F w .any v := by rw [RF]; trivial
section
variable {F : Frz} {w : World}
mutual
theorem RF.sub : ∀ (d d' : DV) (v : Value), subD d d' → RF F w d v → RF F w d' v
  | .e0, d', v, h, hr => by
      rw [subD] at h
      cases d' <;> simp only [hE0, hSl, hAgg, hTup, hPf, hInt, hStr, hBool] at h <;> first | exact h.elim | exact hr | exact RF_any | skip
      rename_i s ys
      subst h
      show RF F w (.sl s []) v
      rw [RF] at hr
      rw [RF]
      obtain ⟨A, e⟩ := hr
      exact ⟨A, 0, e, Nat.le_refl _, Nat.zero_le _, fun _ => rfl, .inl rfl⟩
  | .sl s xs, d', v, h, hr => by
      rw [subD] at h
      cases d' <;> simp only [hE0, hSl, hAgg, hTup, hPf, hInt, hStr, hBool] at h <;> first | exact h.elim | exact RF_any | skip
      rename_i s' ys
      obtain ⟨rfl, h⟩ := h
      rcases h with rfl | h
      · exact hr
      · rw [RF] at hr ⊢
        obtain ⟨A, cap, e, h1, h2, h3, h4⟩ := hr
        have hl := subE_len h
        refine ⟨A, cap, by rw [hl]; exact e, by rw [hl]; exact h1, h2, h3, ?_⟩
        rcases h4 with h4 | ⟨b, off, e2, h5⟩
        · subst h4; rw [subE] at h; exact .inl h
        · exact .inr ⟨b, off, e2, RFE.sub xs ys s b off h h5⟩
  | .agg cs, d', v, h, hr => by
      rw [subD] at h
      cases d' <;> simp only [hE0, hSl, hAgg, hTup, hPf, hInt, hStr, hBool] at h <;> first | exact h.elim | exact RF_any | skip
      rcases h with rfl | h
      · exact hr
      · rw [RF] at hr ⊢
        obtain ⟨arr, e, h1, h2⟩ := hr
        exact ⟨arr, e, h1, RFs.sub cs _ _ h h2⟩
  | .tup cs, d', v, h, hr => by
      rw [subD] at h
      cases d' <;> simp only [hE0, hSl, hAgg, hTup, hPf, hInt, hStr, hBool] at h <;> first | exact h.elim | exact RF_any | skip
      rw [RF] at hr ⊢
      obtain ⟨arr, e, h2⟩ := hr
      exact ⟨arr, e, RFs.sub cs _ _ h h2⟩
  | .pf cs, d', v, h, hr => by
      rw [subD] at h
      cases d' <;> simp only [hE0, hSl, hAgg, hTup, hPf, hInt, hStr, hBool] at h <;> first | exact h.elim | exact RF_any | skip
      rcases h with rfl | h
      · exact hr
      · rw [RF] at hr ⊢
        obtain ⟨b, off, e, h2⟩ := hr
        exact ⟨b, off, e, RFC.sub cs _ b off h h2⟩
  | .int k n, d', v, h, hr => by
      rw [subD] at h
      cases d' <;> simp only [hE0, hSl, hAgg, hTup, hPf, hInt, hStr, hBool] at h <;> first | exact h.elim | exact RF_any | skip
      obtain ⟨rfl, rfl⟩ := h
      exact hr
  | .str s, d', v, h, hr => by
      rw [subD] at h
      cases d' <;> simp only [hE0, hSl, hAgg, hTup, hPf, hInt, hStr, hBool] at h <;> first | exact h.elim | exact RF_any | skip
      subst h
      exact hr
  | .bool b, d', v, h, hr => by
      rw [subD] at h
      cases d' <;> simp only [hE0, hSl, hAgg, hTup, hPf, hInt, hStr, hBool] at h <;> first | exact h.elim | exact RF_any | skip
      subst h
      exact hr
  | .any, d', v, h, hr => by
      rw [subD] at h
      rcases h with rfl | rfl
      · exact hr
      · exact RF_any
  | .fn f c, d', v, h, hr => by
      rw [subD] at h
      rcases h with rfl | rfl
      · exact hr
      · exact RF_any
  | .nilp, d', v, h, hr => by
      rw [subD] at h
      rcases h with rfl | rfl
      · exact hr
      · exact RF_any
  | .nilfn, d', v, h, hr => by
      rw [subD] at h
      rcases h with rfl | rfl
      · exact hr
      · exact RF_any
  | .nili, d', v, h, hr => by
      rw [subD] at h
      rcases h with rfl | rfl
      · exact hr
      · exact RF_any
  | .ifc t c, d', v, h, hr => by
      rw [subD] at h
      rcases h with rfl | rfl
      · exact hr
      · exact RF_any
  | .aggm cs, d', v, h, hr => by rw [RF] at hr; exact hr.elim
  | .ml _ _, d', v, h, hr => by rw [RF] at hr; exact hr.elim
  | .ve _ _ _ _, d', v, h, hr => by rw [RF] at hr; exact hr.elim
  | .ow _, d', v, h, hr => by rw [RF] at hr; exact hr.elim
theorem RFs.sub : ∀ (xs ys : List DV) (vs : List Value), subL xs ys → RFs F w xs vs → RFs F w ys vs
  | [], ys, vs, h, hr => by rw [subL] at h; subst h; exact hr
  | x :: xs, [], vs, h, hr => by rw [subL] at h; exact h.elim
  | x :: xs, y :: ys, vs, h, hr => by
      rw [subL] at h
      rw [RFs] at hr ⊢
      obtain ⟨u, r, e, h1, h2⟩ := hr
      exact ⟨u, r, e, RF.sub x y u h.1 h1, RFs.sub xs ys r h.2 h2⟩
theorem RFC.sub : ∀ (xs ys : List DV) (b off : Nat), subL xs ys → RFC F w xs b off → RFC F w ys b off
  | [], ys, b, off, h, hr => by rw [subL] at h; subst h; exact hr
  | x :: xs, [], b, off, h, hr => by rw [subL] at h; exact h.elim
  | x :: xs, y :: ys, b, off, h, hr => by
      rw [subL] at h
      rw [RFC] at hr ⊢
      obtain ⟨⟨u, h1, h2, h3⟩, h4⟩ := hr
      exact ⟨⟨u, h1, h2, RF.sub x y u h.1 h3⟩, RFC.sub xs ys b (off + 1) h.2 h4⟩
theorem RFE.sub : ∀ (xs ys : List (List DV)) (sz b off : Nat), subE xs ys → RFE F w xs sz b off → RFE F w ys sz b off
  | [], ys, sz, b, off, h, hr => by rw [subE] at h; subst h; exact hr
  | x :: xs, [], sz, b, off, h, hr => by rw [subE] at h; exact h.elim
  | x :: xs, y :: ys, sz, b, off, h, hr => by
      rw [subE] at h
      rw [RFE] at hr ⊢
      exact ⟨by rw [subL_len h.1]; exact hr.1, RFC.sub x y b off h.1 hr.2.1, RFE.sub xs ys sz b (off + sz) h.2 hr.2.2⟩
end
end
/-- arguments below, results above -/
theorem Spec.weak {P : Program} {f : Nat} {ds ds' : List DV} {r : RK} (h : Spec P f (ds'.map .fz) r) (hs : subL ds ds') : Spec P f (ds.map .fz) r := by
  refine ⟨h.1, fun F w vs hf ha hd => ?_⟩
  have hno : ∀ (ds : List DV) (i : Nat) e sz xs, (ds.map RK.fz)[i]? ≠ some (.own e sz xs) := by
    intro ds i e sz xs h1
    rw [List.getElem?_map] at h1
    cases hd : ds[i]? <;> simp [hd] at h1
  have ha' : All2 (ArgOK F w) (ds'.map .fz) vs.toList := by
    have h1 : ∀ (ds ds' : List DV) (vs : List Value), subL ds ds' → All2 (ArgOK F w) (ds.map .fz) vs → All2 (ArgOK F w) (ds'.map .fz) vs := by
      intro ds
      induction ds with
      | nil => intro ds' vs h1 h2; rw [subL] at h1; subst h1; exact h2
      | cons x xs ih =>
        intro ds' vs h1 h2
        cases ds' with
        | nil => rw [subL] at h1; exact h1.elim
        | cons y ys =>
          rw [subL] at h1
          rw [List.map_cons, All2] at h2
          obtain ⟨v, r, rfl, h3, h4⟩ := h2
          exact All2.cons (RF.sub x y v h1.1 h3) (ih ys r h1.2 h4)
    exact h1 ds ds' _ hs ha
  refine (h.2 F w vs hf ha' fun i j e sz xs _ _ _ _ _ _ h1 => absurd h1 (hno ds' i e sz xs)).mono ?_
  rintro e w' ⟨v, F', rfl, hg, hr⟩
  have hown : ∀ (ds : List DV) b, ¬ ownB (ds.map .fz) vs.toList b := by
    rintro ds b ⟨i, e, sz, xs, v, h1, _⟩
    exact hno ds i e sz xs h1
  have hg' : Grow (ownB (ds.map .fz) vs.toList) F w F' w' := ⟨hg.sub, fun b o hb => by
    rcases hg.new b o hb with h1 | h1 | h1
    · exact .inl h1
    · exact .inr (.inl h1)
    · exact absurd h1 (hown ds' b), hg.fwf, hg.size, fun b hb _ => hg.block b hb (hown ds' b), hg.os, hg.tape, hg.output⟩
  refine ⟨v, F', rfl, hg', ?_⟩
  cases r with
  | fz d => exact hr
  | own e sz xs =>
    have hr' : VecOK F' w' _ e sz xs v := hr
    obtain ⟨h1, h2⟩ := hr'
    refine ⟨h1, ?_⟩
    rcases h2 with h2 | ⟨g, cap, cur, e1, hc, h3, r⟩
    · exact .inl h2
    · refine .inr ⟨g, cap, cur, e1, hc, ?_, r⟩
      rcases h3 with h3 | h3
      · exact .inl h3
      · exact absurd h3 (hown ds' g)
  | ownm kk es =>
    obtain ⟨g, arr, clk, e1, h3, r⟩ := (show MapOK F' w' _ kk es v from hr)
    refine ⟨g, arr, clk, e1, ?_, r⟩
    rcases h3 with h3 | h3
    · exact .inl h3
    · exact absurd h3 (hown ds' g)
end Go.Proofs.YtcolebkklojccaaGreat.E
