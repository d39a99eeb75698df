/-
  The engine, part Y: from a contract at data level to a row 'for every input the law answers true; the arguments read as before'.
-/
import Derived.Test.YtcolebkklojccaaGreatEngX
import Derived.WalkKit
import Derived.ProofKit
import Derived.OpenShut
import Derived.JoinedCond
import Derived.Below
import Derived.Carry
set_option linter.unusedVariables false
set_option linter.unusedSimpArgs false
set_option linter.unusedSimpArgs false
set_option linter.unusedVariables false
namespace Go.Proofs.YtcolebkklojccaaGreat.E
open Go Go.ChangeShapes Go.WideShapes Go.ChangeAt Go.RowKit

/-- the kinds of arguments -/
inductive AT where
  | c (c : CT)
  | ag (l : List CT)
def TypedA : AT → DV → Prop
  | .c c, d => Typed c d
  | .ag l, d => ∃ ds, d = .agg ds ∧ Typeds l ds
def aT (P : Program) (n : Nat) (t : TypeId) : Option AT := match P.underlying t, ct P n t with
  | some (.struct _), some l => some (.ag l)
  | some (.array _ _), some l => some (.ag l)
  | some _, some [c] => some (.c c)
  | _, _ => none
def aTs (P : Program) (n : Nat) : List TypeId → Option (List AT)
  | [] => some []
  | t :: ts => match aT P n t, aTs P n ts with
    | some a, some as => if P.readableRec t && decide (t < P.types.size) then some (a :: as) else none
    | _, _ => none

section
variable {H : Type} {enc : TypeId × Value → H} {P : Program} {w : World}

theorem okWide_agg {r : Reach} {base : Nat} {t : TypeId} {cs : Array Value} (h : Cell.okWide P w r base t (.agg cs)) : False := by
  unfold Cell.okWide at h
  split at h
  all_goals (try (rename_i he; simp at he))
  unfold Cell.ok at h
  split at h
  all_goals simp_all
theorem arg_ok {sp : Nat → Bool} {n base : Nat} {t : TypeId} {a : AT} {v : Value} {d : DataW H} {ps : List MemPlace} (ha : aT P n t = some a) (hv : Value.okWide P w .any base t v) (hd : DataW.Trod enc P w 0 sp true t v d ps) :
    ∃ dv, TypedA a dv ∧ RF (Frw w) w dv v := by
  obtain ⟨fuel, hf⟩ := hd
  have agg : ∀ l, ct P n t = some l → ∀ cs, v = .agg cs → ∃ dv, TypedA (.ag l) dv ∧ RF (Frw w) w dv v := by
    intro l hl cs hcs
    subst hcs
    obtain ⟨ds, h1, h2, h3⟩ := rd_trod n fuel t _ d ps l hf hl
    refine ⟨.agg ds, ⟨ds, rfl, h1⟩, ?_⟩
    rw [RF]
    exact ⟨cs, rfl, h3, RFs_iff.2 h2⟩
  unfold aT at ha
  split at ha
  · rename_i fs l hu hl
    cases ha
    unfold Value.okWide at hv
    rw [hu] at hv
    obtain ⟨cs, rfl, _⟩ := hv
    exact agg l hl cs rfl
  · rename_i k e l hu hl
    cases ha
    unfold Value.okWide at hv
    rw [hu] at hv
    obtain ⟨cs, rfl, _⟩ := hv
    exact agg l hl cs rfl
  · rename_i x c hn1 hn2 hu hl
    cases ha
    obtain ⟨ds, h1, h2, h3⟩ := rd_trod n fuel t _ d ps [c] hf hl
    have hc : Cell.okWide P w .any base t v := by
      unfold Value.okWide at hv
      rw [hu] at hv
      split at hv
      · rename_i hx; cases hx; exact (hn1 _ rfl).elim
      · rename_i hx; cases hx; exact (hn2 _ _ rfl).elim
      · exact hv
    have hv1 : v.cells = #[v] := by
      cases v with
      | agg cs => exact (okWide_agg hc).elim
      | _ => rfl
    rw [hv1] at h2
    rw [Typeds] at h1
    obtain ⟨dd, r, rfl, h4, h5⟩ := h1
    obtain ⟨b, r', h6, h7, _⟩ := h2
    simp at h6
    obtain ⟨rfl, _⟩ := h6
    exact ⟨dd, h4, h7⟩
  · simp at ha
theorem args_ok {n base : Nat} : ∀ {ts : List TypeId} {as : List AT} {vs : List Value} {ds : List (DataW H)} {ps : List MemPlace}, aTs P n ts = some as → (∀ (j : Nat) t v, ts[j]? = some t → vs[j]? = some v → Value.okWide P w .any base t v) →
    DataW.TrodAll enc P w 0 (fun _ => true) true ts vs ds ps → ∃ dvs, All2 TypedA as dvs ∧ All2 (RF (Frw w) w) dvs vs
  | [], as, vs, ds, ps, h, hv, hd => by
    simp [aTs] at h
    subst h
    obtain ⟨rfl, rfl, rfl⟩ := trodAll_nil hd
    exact ⟨[], All2.nil, All2.nil⟩
  | t :: ts, as, vs, ds, ps, h, hv, hd => by
    rw [aTs] at h
    split at h
    · rename_i a as' h1 h2
      split at h
      · cases h
        obtain ⟨v0, vs0, d0, ds0, p0, q0, rfl, rfl, rfl, h0, r0⟩ := trodAll_cons hd
        obtain ⟨dv, k1, k2⟩ := arg_ok h1 (hv 0 t v0 rfl rfl) h0
        obtain ⟨dvs, k3, k4⟩ := args_ok h2 (fun j t v hj hv' => hv (j + 1) t v hj hv') r0
        exact ⟨dv :: dvs, All2.cons k1 k3, All2.cons k2 k4⟩
      · simp at h
    · simp at h
theorem args_stay {n : Nat} (hl : laidOutB P = true) {W' : World} {sp : Nat → Bool} : ∀ {ts : List TypeId} {as : List AT} {vs : List Value} {ds : List (DataW H)} {ps : List MemPlace}, aTs P n ts = some as →
    DataW.TrodAll enc P w 0 (fun _ => true) true ts vs ds ps → (∀ p ∈ ps, w.sameAt W' p) → (∀ p ∈ ps, sp p.block = true) → DataW.TrodAll enc P W' 0 sp true ts vs ds ps
  | [], as, vs, ds, ps, h, hd, _, _ => by
    obtain ⟨rfl, rfl, rfl⟩ := trodAll_nil hd
    exact trodAll_mk0
  | t :: ts, as, vs, ds, ps, h, hd, h1, h2 => by
    rw [aTs] at h
    split at h
    · rename_i a as' h3 h4
      split at h
      · rename_i hr
        simp at hr
        cases h
        obtain ⟨v0, vs0, d0, ds0, p0, q0, rfl, rfl, rfl, h0, r0⟩ := trodAll_cons hd
        exact trodAll_cons_mk (WideElems.Trod_stays hl hr.1 hr.2 h0 (fun p hp => h1 p (List.mem_append_left _ hp)) (fun p hp => h2 p (List.mem_append_left _ hp)))
          (args_stay hl h4 r0 (fun p hp => h1 p (List.mem_append_right _ hp)) (fun p hp => h2 p (List.mem_append_right _ hp)))
      · simp at h
    · simp at h

/-- the step from a call that turns nothing that was there -/
theorem post_low {f : Func} {s : ChangeSpec} {apart fresh handsOn again : Bool} {W W' : World} {args : Array Value} {v : Value} {ds gs : List (DataW H)} {ps pa pv : List MemPlace}
    (hw : DataW.Whole enc P f.params.toList s.vars apart W args.toList ds gs ps) (hb : Below W.heap.size W W') (hp : ps = pa ++ pv)
    (r1 : ∀ (b : Nat) (sp : Nat → Bool) (hd : Bool), DataW.TrodAll enc P W' b sp hd f.resultTypes.toList (v.resultList f.resultTypes.size) (s.fn H (ds ++ gs)).results [])
    (r2 : ∀ sp : Nat → Bool, (∀ p ∈ ps, sp p.block = true) → DataW.TrodAll enc P W' 0 sp true f.params.toList args.toList (s.fn H (ds ++ gs)).args pa)
    (r3 : ∀ sp : Nat → Bool, (∀ p ∈ ps, sp p.block = true) → DataW.TrodVars enc P W' sp s.vars (s.fn H (ds ++ gs)).vars pv)
    (r4 : ∀ (j : Nat) (t : TypeId) (r : Value), f.resultTypes[j]? = some t → (v.resultList f.resultTypes.size)[j]? = some r → Value.okWide P W' .any 0 t r) :
    s.post enc P f apart fresh handsOn again W args v W' := by
  have low : ∀ p ∈ ps, p.block < W.heap.size := fun p h => hw.lt p h
  have low' : ∀ p ∈ ps, (fun b => decide (b < W.heap.size)) p.block = true := fun p h => by simpa using low p h
  obtain ⟨_, _, _, _, _, fz, nd⟩ := id hw
  refine ⟨ds, gs, ps, [], pa, pv, hw, r1 _ _ _, r2 _ low', r3 _ low', World.keptBut_mono (fun p h => ⟨h, .inr (List.mem_append.1 (hp ▸ h))⟩) (hb.frame (· ∈ ps)), fun _ => ⟨r4, ?_⟩⟩
  refine ⟨_, _, ([] ++ pa) ++ pv, ⟨[] ++ pa, pv, trodAll_append (r2 _ (fun _ _ => rfl)) (r1 _ _ _), r3 _ (fun _ _ => rfl), rfl, fun b off h => ?_, fun ha => ?_⟩, fun p h _ => ?_⟩
  · have hin : MemPlace.cell b off ∈ ps := by rw [hp]; simpa using h
    rw [hb.frozen (low _ hin)]
    exact fz b off hin
  · have := nd ha
    rw [hp] at this
    simpa using this
  · rw [hp]
    simpa using h
/-- a contract over what is there, and nothing given away: what a call does -/
theorem Spec.low {f : Nat} {ds : List DV} {d : DV} (h : Spec P f (ds.map .fz) (.fz d)) {args : Array Value} {W : World} (ha : All2 (RF (Frw W) W) ds args.toList) :
    Calls P f args W fun e W' => ∃ v F', e = .returned v ∧ Below W.heap.size W W' ∧ RF F' W' d v := by
  have hno : ∀ (i : Nat) e sz xs, (ds.map RK.fz)[i]? ≠ some (.own e sz xs) := by
    intro i e sz xs h1
    rw [List.getElem?_map] at h1
    cases hd : ds[i]? <;> simp [hd] at h1
  have ha' : All2 (ArgOK (Frw W) W) (ds.map .fz) args.toList := ha.map RK.fz fun _ _ hh => hh
  refine (h.2 _ W args (fun _ _ h => h) ha' fun i j e sz xs _ _ _ _ _ _ h1 => absurd h1 (hno i e sz xs)).mono ?_
  rintro e W' ⟨v, F', rfl, hg, hr⟩
  exact ⟨v, F', rfl, ⟨hg.os, hg.tape, hg.output, hg.size, fun k hk => hg.block k hk fun ⟨i, e, sz, xs, _, h1, _⟩ => hno i e sz xs h1⟩, hr⟩
/-- a law's row -/
theorem law_contract {f n : Nat} {fn : Func} {s : ChangeSpec} {ats : List AT} {tb : TypeId} (hl : laidOutB P = true) (hvars : s.vars = []) (hfn : ∀ ds : List (DataW H), ds.length = fn.params.size → s.fn H ds = ⟨[.lit (.bool true)], ds, []⟩)
    (hres : fn.resultTypes = #[tb]) (htb : P.underlying tb = some .bool) (has : aTs P n fn.params.toList = some ats) (hsp : ∀ dvs, All2 TypedA ats dvs → Spec P f (dvs.map .fz) (.fz (.bool true)))
    (W : World) (base : Nat) (args : Array Value) (ds gs : List (DataW H)) (before : List MemPlace)
    (hval : ∀ (j : Nat) t v, fn.params[j]? = some t → args[j]? = some v → Value.okWide P W .any base t v)
    (hW : DataW.Whole enc P fn.params.toList s.vars false W args.toList ds gs before) :
    Calls P f args W fun e W' => ∃ v, e = .returned v ∧ s.post enc P fn false true false false W args v W' := by
  have hlt : ∀ p ∈ before, p.block < W.heap.size := fun p h => hW.lt p h
  have hW' := hW
  obtain ⟨p, q, hA, hV, rfl, hfz, hnd⟩ := hW
  rw [hvars] at hV
  obtain ⟨rfl, rfl⟩ := trodVars_none hV
  have hlen : ds.length = fn.params.size := by
    have : ∀ {ts : List TypeId} {vs : List Value} {ds : List (DataW H)} {ps : List MemPlace}, DataW.TrodAll enc P W 0 (fun _ => true) true ts vs ds ps → ds.length = ts.length := by
      intro ts
      induction ts with
      | nil => intro vs ds ps h; obtain ⟨rfl, rfl, rfl⟩ := trodAll_nil h; rfl
      | cons t ts ih =>
        intro vs ds ps h
        obtain ⟨v0, vs0, d0, ds0, p0, q0, rfl, rfl, rfl, h0, r0⟩ := trodAll_cons h
        simp [ih r0]
    simpa using this hA
  have hsf := hfn ds hlen
  obtain ⟨dvs, k1, k2⟩ := args_ok (base := base) has (fun j t v hj hv => hval j t v (by simpa using hj) (by simpa using hv)) hA
  refine ((hsp dvs k1).low k2).mono fun e W' hh => ?_
  obtain ⟨v, F', rfl, hb, hr⟩ := hh
  rw [RF] at hr
  subst hr
  refine ⟨_, rfl, post_low (pa := p) (pv := []) hW' hb rfl ?_ ?_ ?_ ?_⟩
  · intro b sp hd
    rw [List.append_nil, hsf, hres]
    exact trodAll_cons_mk (shut_bool htb _) trodAll_mk0
  · intro sp hsp
    rw [List.append_nil, hsf]
    exact args_stay hl has hA (fun x hx => hb.same (hlt x (by simpa using hx))) (fun x hx => hsp x (by simpa using hx))
  · intro sp hsp
    rw [List.append_nil, hsf, hvars]
    rfl
  · exact ok_one hres rfl (okWide_bool_mk htb _)
end
end Go.Proofs.YtcolebkklojccaaGreat.E
