/-
  ItP0: walks of functions of the program at data level.
-/
import Derived.Test.YtcolebkklojccaaGreatEngZ
set_option linter.unusedVariables false
set_option linter.unusedSimpArgs false
namespace Go.Proofs.YtcolebkklojccaaGreat.E
open Go
set_option maxRecDepth 100000
set_option maxHeartbeats 4000000
/-- the walk reaches a panic of the function's own -/
def QC (t n : Nat) : AE → DS → Prop := fun e s => match e with
  | .normal => gt s.env t = .bool true ∧ s.env.length = n
  | _ => False
def QD (O : Nat → Prop) (F0 : Frz) (w0 : World) (d : DV) : Exit → Act → World → Prop := fun e a w => match e with
  | .panic ch => PanOK O F0 w0 (fun d' _ => d' = d) ch a w
  | _ => False
theorem specP_cut {P : Program} {f : Nat} {fn : Func} {c0 c1 cA cP cR : Code} {ds : List DV} {x0 x1 xA : AC} {d : DV} {n m t : Nat} (hf : P.funcs[f]? = some fn) (hn : (fn.name == "runtime.NumGoroutine") = false)
    (hb : fn.body = some (.seq c0 (.seq c1 (.seq (.seq cA (.cond (.tmp t) cP .skip)) cR)))) (hnt : fn.ntmps = n + ds.length)
    (h0 : trCodeF P [] c0 = some (strip x0)) (h1 : trCodeF P [] c1 = some (strip x1)) (hA : trCodeF P [] cA = some (strip xA))
    (h : dwp P (.seq x0 (.seq x1 xA)) ⟨argE 0 (ds.map .fz) ++ List.replicate n .any, argM 0 (ds.map .fz)⟩ (QC t m))
    (hP : ∀ O F0 w0 M F (s : DS) a w, Inv O F0 w0 M F s.env s.mem a w → s.env.length = m → cP.wp P (QD O F0 w0 d) a w) : SpecP P f ds d := by
  refine ⟨by unfold callable; rw [hf]; simp [hb, hn], ?_⟩
  intro F w vs hfwf hargs
  have hno : ∀ (i : Nat) e sz xs, (ds.map RK.fz)[i]? ≠ some (.own e sz xs) := by
    intro i e sz xs h1
    rw [List.getElem?_map] at h1
    cases hd : ds[i]? <;> simp [hd] at h1
  obtain ⟨M, hi⟩ := entry_ok (fn := fn) (n := n) (as := ds.map .fz) (by simpa using hnt) hfwf (hargs.map RK.fz fun _ _ hh => hh) (fun i j e sz xs _ _ _ _ _ _ h1 => absurd h1 (hno i e sz xs))
  refine calls_of_wp hf hb (wp_mono (Q := QD (ownB (ds.map .fz) vs.toList) F w d) ?_ ?_)
  · rw [e_sq] at h
    refine wp_seq (wp_mono (dwp_sound x0 h0 hi h) fun e a1 w1 hq => ?_)
    cases e with
    | normal =>
      obtain ⟨s1, M1, F1, hi1, hk1⟩ := hq
      have hk1 : dwp P (.seq x1 xA) s1 (QC t m) := hk1
      rw [e_sq] at hk1
      refine wp_seq (wp_mono (dwp_sound x1 h1 hi1 hk1) fun e a2 w2 hq => ?_)
      cases e with
      | normal =>
        obtain ⟨s2, M2, F2, hi2, hk2⟩ := hq
        have hk2 : dwp P xA s2 (QC t m) := hk2
        refine wp_seq (wp_seq (wp_mono (dwp_sound xA hA hi2 hk2) fun e a3 w3 hq => ?_))
        cases e with
        | normal =>
          obtain ⟨s3, M3, F3, hi3, hg, hl⟩ := hq
          refine wp_cond_true ?_ (wp_mono (hP _ _ _ _ _ _ _ _ hi3 hl) fun e a w hq => ?_)
          · have hv := hi3.get t
            rw [hg] at hv
            have hv : RF F3 w3 (.bool true) (a3.tmps.getD t undef) := hv
            rw [RF] at hv
            exact hv
          · cases e <;> first | exact hq | exact hq.elim
        | ret => obtain ⟨_, _, _, _, h⟩ := hq; exact h.elim
        | exit id => obtain ⟨_, _, _, _, h⟩ := hq; exact h.elim
        | panic ch => obtain ⟨_, _, _, _, _, _, _, _, h⟩ := hq; exact h.elim
        | _ => exact hq.elim
      | ret => obtain ⟨_, _, _, _, h⟩ := hq; exact h.elim
      | exit id => obtain ⟨_, _, _, _, h⟩ := hq; exact h.elim
      | panic ch => obtain ⟨_, _, _, _, _, _, _, _, h⟩ := hq; exact h.elim
      | _ => exact hq.elim
    | ret => obtain ⟨_, _, _, _, h⟩ := hq; exact h.elim
    | exit id => obtain ⟨_, _, _, _, h⟩ := hq; exact h.elim
    | panic ch => obtain ⟨_, _, _, _, _, _, _, _, h⟩ := hq; exact h.elim
    | _ => exact hq.elim
  · intro e a w' hq
    cases e with
    | panic ch =>
      obtain ⟨s', M', F', d', v, rfl, hr, hi', rfl⟩ := hq
      have hg : Grow (ownB (ds.map .fz) vs.toList) F w F' w' := hi'.grow
      have hO : ∀ b, ¬ ownB (ds.map .fz) vs.toList b := fun b ⟨i, e, sz, xs, _, h1, _⟩ => hno i e sz xs h1
      refine ⟨hi'.dl, v, F', rfl, ⟨hg.sub, fun b o hb => ?_, hg.fwf, hg.size, fun b h1 _ => hg.block b h1 (hO b), hg.os, hg.tape, hg.output⟩, hr⟩
      rcases hg.new b o hb with h | h | h
      · exact .inl h
      · exact .inr (.inl h)
      · exact absurd h (hO b)
    | _ => exact hq.elim
end Go.Proofs.YtcolebkklojccaaGreat.E
