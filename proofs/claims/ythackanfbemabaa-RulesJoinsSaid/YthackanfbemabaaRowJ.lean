/-
  RowJ: walks of functions of the program at data level.
-/
import Derived.Test.YthackanfbemabaaRows
import Derived.WalkKit
import Derived.ProofKit
import Derived.OpenShut
import Derived.JoinedCond
import Derived.Below
import Derived.Test.YthackanfbemabaaRaE
set_option linter.unusedVariables false
set_option linter.unusedSimpArgs false
namespace Go.Proofs.Ythackanfbemabaa.E
open Go Go.ChangeShapes Go.WideShapes Go.ChangeAt Go.RowKit
set_option linter.unusedVariables false
section
variable {H : Type} {enc : TypeId × Value → H} {P : Program}
/-- the step from a call that turns nothing that was there -/
theorem post_low {f : Func} {s : ChangeSpec} {apart fresh handsOn again : Bool} {W W' : World} {args : Array Value} {v : Value} {ds gs : List (DataW H)} {ps pa pv : List MemPlace}
    (hw : DataW.Whole enc P f.params.toList s.vars apart W args.toList ds gs ps) (hb : Below W.heap.size W W') (hp : ps = pa ++ pv)
    (r1 : ∀ (b : Nat) (sp : Nat → Bool) (hd : Bool), DataW.TrodAll enc P W' b sp hd f.resultTypes.toList (v.resultList f.resultTypes.size) (s.fn H (ds ++ gs)).results [])
    (r2 : ∀ sp : Nat → Bool, (∀ p ∈ ps, sp p.block = true) → DataW.TrodAll enc P W' 0 sp true f.params.toList args.toList (s.fn H (ds ++ gs)).args pa)
    (r3 : ∀ sp : Nat → Bool, (∀ p ∈ ps, sp p.block = true) → DataW.TrodVars enc P W' sp s.vars (s.fn H (ds ++ gs)).vars pv)
    (r4 : ∀ (j : Nat) (t : TypeId) (r : Value), f.resultTypes[j]? = some t → (v.resultList f.resultTypes.size)[j]? = some r → Value.okWide P W' .any 0 t r) :
    s.post enc P f apart fresh handsOn again W args v W' := by
  have low : ∀ p ∈ ps, p.block < W.heap.size := fun p h => hw.lt p h
  have low' : ∀ p ∈ ps, (fun b => decide (b < W.heap.size)) p.block = true := fun p h => by simpa using low p h
  obtain ⟨_, _, _, _, _, fz, nd⟩ := id hw
  refine ⟨ds, gs, ps, [], pa, pv, hw, r1 _ _ _, r2 _ low', r3 _ low', World.keptBut_mono (fun p h => ⟨h, .inr (List.mem_append.1 (hp ▸ h))⟩) (hb.frame (· ∈ ps)), fun _ => ⟨r4, ?_⟩⟩
  refine ⟨_, _, ([] ++ pa) ++ pv, ⟨[] ++ pa, pv, trodAll_append (r2 _ (fun _ _ => rfl)) (r1 _ _ _), r3 _ (fun _ _ => rfl), rfl, fun b off h => ?_, fun ha => ?_⟩, fun p h _ => ?_⟩
  · have hin : MemPlace.cell b off ∈ ps := by rw [hp]; simpa using h
    rw [hb.frozen (low _ hin)]
    exact fz b off hin
  · have := nd ha
    rw [hp] at this
    simpa using this
  · rw [hp]
    simpa using h
end
/-- a contract over what is there, and nothing given away: what a call does -/
theorem Spec.low {P : Program} {f : Nat} {ds : List DV} {d : DV} (h : Spec P f (ds.map .fz) (.fz d)) {args : Array Value} {W : World} (ha : All2 (RF (fun b _ => b < W.heap.size) W) ds args.toList) :
    Calls P f args W fun e W' => ∃ v F', e = .returned v ∧ Below W.heap.size W W' ∧ RF F' W' d v := by
  have hno : ∀ (i : Nat) e sz xs, (ds.map RK.fz)[i]? ≠ some (.own e sz xs) := by
    intro i e sz xs h1
    rw [List.getElem?_map] at h1
    cases hd : ds[i]? <;> simp [hd] at h1
  have ha' : All2 (ArgOK (fun b _ => b < W.heap.size) W) (ds.map .fz) args.toList := ha.map RK.fz fun _ _ hh => hh
  refine (h.2 _ W args (fun _ _ h => h) ha' fun i j e sz xs _ _ _ _ _ _ h1 => absurd h1 (hno i e sz xs)).mono ?_
  rintro e W' ⟨v, F', rfl, hg, hr⟩
  exact ⟨v, F', rfl, ⟨hg.os, hg.tape, hg.output, hg.size, fun k hk => hg.block k hk fun ⟨i, e, sz, xs, _, h1, _⟩ => hno i e sz xs h1⟩, hr⟩
namespace rj
theorem own : ownKnob Try.prog.godebug = none := by kernel_rfl
theorem contract (H : Type) (enc : TypeId × Value → H) (W : World) (base : Nat) (args : Array Value) (ds gs : List (DataW H)) (before : List MemPlace)
    (hval : ∀ (j : Nat) t v, Try.f4.params[j]? = some t → args[j]? = some v → Value.okWide Try.prog W .any base t v)
    (hW : DataW.Whole enc Try.prog Try.f4.params.toList Go.Proofs.Ythackanfbemabaa.Rows.rulesJoinsSpec.vars false W args.toList ds gs before) :
    Calls Try.prog 4 args W fun e W' => ∃ v, e = .returned v ∧ Go.Proofs.Ythackanfbemabaa.Rows.rulesJoinsSpec.post enc Try.prog Try.f4 false true false false W args v W' := by
  have hW' := hW
  obtain ⟨p, q, hA0, hV, rfl, hfz, hnd⟩ := hW
  have hA : DataW.TrodAll enc Try.prog W 0 (fun _ => true) true Try.f4.params.toList args.toList ds p := hA0
  rw [Try.params4] at hA hval
  obtain ⟨v0, vs0, d0, ds0, p0, q0, hargs, rfl, rfl, h0, r0⟩ := trodAll_cons hA
  obtain ⟨v1, vs1, d1, ds1, p1, q1, hvs1, rfl, rfl, h1, r1⟩ := trodAll_cons r0
  obtain ⟨rfl, rfl, rfl⟩ := trodAll_nil r1
  subst hvs1
  obtain rfl : args = #[v0, v1] := by cases args; simp_all
  obtain ⟨rfl, rfl⟩ := trodVars_none hV
  obtain ⟨a0, rfl, rfl, rfl, w0⟩ := open_int Try.underlying3 (hval 0 3 v0 rfl rfl) h0
  obtain ⟨a1, rfl, rfl, rfl, w1⟩ := open_int Try.underlying3 (hval 1 3 v1 rfl rfl) h1
  clear hA0
  simp only [List.append_nil] at hW'
  refine ((spec4 a0 a1).low (ds := [.int .i64 a0, .int .i64 a1]) (All2.cons (by rw [RF]) (All2.cons (by rw [RF]) All2.nil))).mono fun e W' hh => ?_
  obtain ⟨v, F', rfl, hb, hr⟩ := hh
  rw [RF] at hr
  subst hr
  exact ⟨_, rfl, post_low (pa := []) (pv := []) hW' hb rfl (fun _ _ _ => (trodAll_cons_mk (shut_bool Try.underlying4 _) trodAll_mk0)) (fun sp _ => (trodAll_cons_mk (shut_int Try.underlying3 w0) (trodAll_cons_mk (shut_int Try.underlying3 w1) trodAll_mk0))) (fun _ _ => rfl)
    (ok_one (by kernel_rfl) rfl (okWide_bool_mk Try.underlying4 _))⟩
set_option maxRecDepth 100000 in
theorem lifted (os : Os) (started : os.Started) (H : Type) (enc : TypeId × Value → H) :
    ReturnsInHanded {} Try.checked os 4 .any (Go.Proofs.Ythackanfbemabaa.Rows.rulesJoinsSpec.pre6 enc Try.prog Try.f4 Go.Proofs.Ythackanfbemabaa.Rows.rulesJoinsRow.domain false) (Go.Proofs.Ythackanfbemabaa.Rows.rulesJoinsSpec.post enc Try.prog Try.f4 false true false false) := by
  refine returnsInHanded_of_change (C := Try.checked) own started (by kernel_rfl) Try.func4
    (ChangeSpec.witness6 (enc := enc) (C := Try.checked) false ⟨#[], #[.int .i64 0, .int .i64 0], []⟩ 8 (by kernel_rfl) (by kernel_rfl) (by kernel_rfl) (by kernel_rfl)) ?_
  intro W base args ds gs before hval hW _ _
  exact contract H enc W base args ds gs before hval hW
theorem proved : Go.Proofs.Ythackanfbemabaa.Rows.RulesJoinsSaid :=
  OpenClaim.holds_of_wide 4 Try.f4 rfl rfl rfl rfl rfl rfl rfl ⟨rfl, rfl, rfl, rfl, rfl⟩ rfl rfl rfl rfl rfl (by kernel_rfl) Try.func4 (by kernel_rfl)
    (of_decide_eq_true (by kernel_rfl)) (by unfold Func.isWrapper; first | (rw [if_pos (by decide +kernel)]; kernel_rfl) | (rw [if_neg (by decide +kernel)]; exact ⟨rfl, rfl⟩))
    (fun os started H enc _ => lifted os started H enc)
end rj
end Go.Proofs.Ythackanfbemabaa.E
