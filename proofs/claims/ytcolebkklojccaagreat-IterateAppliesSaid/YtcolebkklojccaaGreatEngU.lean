/-
  The engine, part U: results, and the contract that a walk gives.
-/
import Derived.Test.YtcolebkklojccaaGreatEngW
import Derived.Laws.Sem
set_option linter.unusedVariables false
set_option linter.unusedSimpArgs false
set_option linter.unusedSimpArgs false
namespace Go.Proofs.YtcolebkklojccaaGreat.E
open Go

inductive AR where
  | t (n : Nat)
  | c (ag : Bool) (n a : Nat)
def trRes (P : Program) : List ResultVar → Option (List AR)
  | [] => some []
  | .tmp t :: r => (trRes P r).map (.t t :: ·)
  | .cell a t :: r => match P.underlying t, szT P t, trRes P r with
    | some d, some n, some rs => if isAggD d || n == 1 then some (.c (isAggD d) n a :: rs) else none
    | _, _, _ => none
def kRes1 (r : AR) (s : DS) (K : DV → Prop) : Prop :=
  match r with
  | .t t => K (gt s.env t)
  | .c ag n a => kLd ag n (gt s.env a) s.mem K
def kResL : List AR → DS → (List DV → Prop) → Prop
  | [], _, K => K []
  | r :: rs, s, K => kRes1 r s fun d => kResL rs s fun ds => K (d :: ds)
def frzV : Nat → DS → (List DV → Prop) → Prop
  | 0, _, _ => False
  | n + 1, s, K => frzO (hdlVs s.env) s (fun s' => s'.env.all isFz = true ∧ K s'.env) fun s' => frzV n s' K
def retV : List DV → DV
  | [d] => d
  | ds => .tup ds
def kOwR (mem : Mem) (e sz : Nat) (xs : List (List DV)) (ds : List DV) : Prop :=
  match ds with
  | [.ow k] => mget mem k = some (.vec e sz xs)
  | [.e0] => xs = []
  | _ => False
def kOwM (mem : Mem) (kk : KK) (es : List (DV × DV)) (ds : List DV) : Prop :=
  match ds with
  | [.ow k] => mget mem k = some (.mp kk es)
  | _ => False
def kRet (ars : List AR) (r : RK) (s : DS) : Prop :=
  match r with
  | .fz d => kResL ars s fun ds => frzV fuelF ⟨ds, s.mem⟩ fun ds' => subD (retV ds') d
  | .own e sz xs => kResL ars s (kOwR s.mem e sz xs)
  | .ownm kk es => kResL ars s (kOwM s.mem kk es)
def Qret (ars : List AR) (r : RK) (e : AE) (s : DS) : Prop :=
  match e with
  | .normal => kRet ars r s
  | .ret => kRet ars r s
  | .exit _ => False
  | .pan _ => False

def argE : Nat → List RK → List DV
  | _, [] => []
  | i, .fz d :: r => d :: argE (i + 1) r
  | i, .own _ _ _ :: r => .ow i :: argE (i + 1) r
  | i, .ownm _ _ :: r => .any :: argE (i + 1) r
def argM : Nat → List RK → Mem
  | _, [] => []
  | i, .fz _ :: r => argM (i + 1) r
  | i, .own e sz xs :: r => (i, .vec e sz xs) :: argM (i + 1) r
  | i, .ownm _ _ :: r => argM (i + 1) r

section
variable {P : Program} {O : Nat → Prop} {F0 : Frz} {w0 : World} {M : Hnd} {F F' : Frz} {a : Act} {w w' : World} {s : DS} {K : DS → Prop}

theorem res1_ok {t : TypeId} {d : TypeDesc} {n : Nat} {p : Nat} (hi : Inv O F0 w0 M F s.env s.mem a w) (hd : P.underlying t = some d) (hn : szT P t = some n) (h1 : (isAggD d || n == 1) = true) {KK : DV → Prop}
    (hK : kLd (isAggD d) n (gt s.env p) s.mem KK) : ∃ x v, (do loadVar t (← asAddr (a.tmps.getD p undef)) : Sem Value).run P w = .ok v w ∧ RV M F w x v ∧ KK x := by
  have hv := hi.get p
  have fin : ∀ {cs : List DV} {b off : Nat}, a.tmps.getD p undef = .pointer (some ⟨b, off, none⟩) → CellsAt M F w cs b off → takeK (isAggD d) n cs KK → ∃ x v, (do loadVar t (← asAddr (a.tmps.getD p undef)) : Sem Value).run P w = .ok v w ∧ RV M F w x v ∧ KK x := by
    intro cs b off he hc hk
    obtain ⟨x, v, hr, hR, hk'⟩ := loadVar_ok (P := P) hd hn h1 hc hk
    refine ⟨x, v, ?_, hR, hk'⟩
    simp only [he, asAddr, Sem.run_bind, Sem.run_pure, Result.andThen_ok, hr]
  cases hx : gt s.env p with
  | pf cs =>
    rw [hx] at hv hK
    have hv : RF F w (.pf cs) _ := hv
    rw [RF] at hv
    obtain ⟨b, off, e1, e2⟩ := hv
    refine fin e1 (CellsAt.of_RFC e2) ?_
    cases hag : isAggD d with
    | true =>
      rw [hag] at hK
      refine ⟨hK.1, ?_⟩
      have : mkAgg (cs.take n) = .agg (cs.take n) := mkAgg_of_fz fun d hd => by
        obtain ⟨i, hi⟩ := List.getElem?_of_mem (List.mem_of_mem_take hd)
        obtain ⟨u, _, _, h3⟩ := e2.get i d hi
        exact RF_isFz h3
      rw [this]; exact hK.2
    | false => rw [hag] at hK; exact hK
  | ml k off =>
    rw [hx] at hv hK
    simp only [kLd] at hK
    cases hm : mget s.mem k with
    | none => rw [hm] at hK; exact hK.elim
    | some blk =>
      rw [hm] at hK
      cases blk with
      | vec e sz xs => exact hK.elim
      | mp kk es => exact hK.elim
      | box cs =>
        obtain ⟨b, arr, t', g1, g2, g3, g4, g5⟩ := hi.box hm hv
        refine fin g2 ?_ hK
        have := (CellsAt.of_block g3 g4 g5).drop off
        rwa [Nat.zero_add] at this
  | ve k sz i off =>
    rw [hx] at hv hK
    simp only [kLd] at hK
    cases hm : mget s.mem k with
    | none => rw [hm] at hK; exact hK.elim
    | some blk =>
      rw [hm] at hK
      cases blk with
      | box cs => exact hK.elim
      | mp kk es => exact hK.elim
      | vec e s' xs =>
        obtain ⟨q1, q2, q3⟩ := hK
        subst q1
        obtain ⟨b, n', c, g1, g2⟩ := (show RVc M F w (.ve k s' i off) _ from hv)
        obtain ⟨b', cap, arr, g3, g4, g5⟩ := hi.vecAt hm g1 q2
        cases g3
        exact fin g2 (g5.drop off) q3
  | _ => rw [hx] at hK; exact hK.elim

/-- what the results are loaded by -/
def res1 (tmps : Array Value) (r : ResultVar) : Sem Value :=
  match r with
  | .tmp t => pure (tmps.getD t undef)
  | .cell a t => do loadVar t (← asAddr (tmps.getD a undef))
theorem resL_ok (hi : Inv O F0 w0 M F s.env s.mem a w) : ∀ {l : List ResultVar} {ars : List AR} {KK : List DV → Prop}, trRes P l = some ars → kResL ars s KK →
    ∃ ds vs, (l.mapM (res1 a.tmps)).run P w = .ok vs w ∧ All2 (RV M F w) ds vs ∧ KK ds
  | [], ars, KK, h, hK => by
      simp only [trRes, Option.some.injEq] at h
      subst h
      exact ⟨[], [], by simp, All2.nil, hK⟩
  | r :: l, ars, KK, h, hK => by
      have go : ∀ {ar : AR} {ars' : List AR}, trRes P l = some ars' → (∀ {K1 : DV → Prop}, kRes1 ar s K1 → ∃ x v, (res1 a.tmps r).run P w = .ok v w ∧ RV M F w x v ∧ K1 x) → kResL (ar :: ars') s KK →
          ∃ ds vs, ((r :: l).mapM (res1 a.tmps)).run P w = .ok vs w ∧ All2 (RV M F w) ds vs ∧ KK ds := by
        intro ar ars' h1 hr hK
        obtain ⟨x, v, e1, e2, e3⟩ := hr hK
        obtain ⟨ds, vs, g1, g2, g3⟩ := resL_ok hi h1 e3
        exact ⟨x :: ds, v :: vs, by simp [List.mapM_cons, e1, g1], All2.cons e2 g2, g3⟩
      cases r with
      | tmp t =>
        simp only [trRes, Option.map_eq_some_iff] at h
        obtain ⟨ars', h1, rfl⟩ := h
        exact go (ar := .t t) h1 (fun hk => ⟨_, _, rfl, hi.get t, hk⟩) hK
      | cell p t =>
        simp only [trRes] at h
        split at h <;> try (cases h; done)
        rename_i d n rs h1 h2 h3
        split at h <;> try (cases h; done)
        rename_i h4
        simp only [Option.some.injEq] at h
        subst h
        exact go (ar := .c (isAggD d) n p) h3 (fun hk => res1_ok hi h1 h2 h4 hk) hK

theorem frzV_ok : ∀ {n : Nat} {s : DS} {F : Frz} {KK : List DV → Prop}, Inv O F0 w0 M F s.env s.mem a w → frzV n s KK → ∃ (s' : DS) (F' : Frz), Inv O F0 w0 M F' s'.env s'.mem a w ∧ s'.env.all isFz = true ∧ KK s'.env
  | 0, s, F, KK, hi, h => h.elim
  | n + 1, s, F, KK, hi, h => by
      simp only [frzV] at h
      cases hh : hdlVs s.env with
      | none => rw [hh] at h; exact ⟨s, F, hi, h⟩
      | some k =>
        rw [hh] at h
        obtain ⟨s', F', h1, _, h2⟩ := frzK_ok hi (show frzK k s _ from h)
        exact frzV_ok h1 h2
theorem Inv.act (hi : Inv O F0 w0 M F s.env s.mem a w) {ds : List DV} {vs : List Value} (h : All2 (RV M F w) ds vs) : Inv O F0 w0 M F ds s.mem { tmps := vs.toArray, defers := [] } w :=
  ⟨rfl, by simpa using h, hi.mm, hi.dis, hi.grow⟩

theorem ret_ok {fn : Func} {ars : List AR} {r : RK} (hi : Inv O F0 w0 M F s.env s.mem a w) (hr : trRes P fn.results.toList = some ars) (hK : kRet ars r s) :
    ∃ v F', (results fn a.tmps).run P w = .ok v w ∧ Grow O F0 w0 F' w ∧ ResOK F' w (Nw O w0) r v := by
  have hres : ∀ vs : List Value, (fn.results.toList.mapM (res1 a.tmps)).run P w = .ok vs w → (results fn a.tmps).run P w = .ok (match vs with | [v] => v | vs => .tuple vs.toArray) w := by
    intro vs h
    have e : results fn a.tmps = (do let vs ← fn.results.mapM (res1 a.tmps); pure (if h : vs.size = 1 then vs[0] else .tuple vs)) := by
      unfold results
      congr 2
    rw [e]
    rw [Array.mapM_eq_mapM_toList]
    simp only [map_eq_pure_bind, Sem.run_bind, h, Result.andThen_ok, Sem.run_pure]
    match vs with
    | [] => rfl
    | [v] => rfl
    | v :: u :: r => simp
  cases r with
  | fz d =>
    obtain ⟨ds, vs, h1, h2, h3⟩ := resL_ok hi hr (show kResL ars s _ from hK)
    obtain ⟨s', F', g1, g2, g3⟩ := frzV_ok (s := ⟨ds, s.mem⟩) (hi.act h2) h3
    refine ⟨_, F', hres vs h1, g1.grow, ?_⟩
    have hev : All2 (RF F' w) s'.env vs := by
      have := g1.ev
      refine All2.of_get (by simpa using this.length) fun i d v e1 e2 => ?_
      obtain ⟨v', e3, r⟩ := this.get i d e1
      have e4 : vs[i]? = some v' := by simpa using e3
      rw [e2] at e4; cases e4
      exact (RV_fz (List.all_eq_true.1 g2 d (List.mem_of_getElem? e1))).1 r
    show RF F' w d _
    refine RF.sub _ _ _ g3 ?_
    match hse : s'.env, vs, hev with
    | [], vs, hev =>
      rw [All2] at hev
      subst hev
      show RF F' w (.tup []) _
      rw [RF]
      exact ⟨_, rfl, by rw [RFs]⟩
    | [d], vs, hev =>
      rw [All2] at hev
      obtain ⟨v, r, rfl, h5, h6⟩ := hev
      rw [All2] at h6
      subst h6
      exact h5
    | d :: e :: l, vs, hev =>
      have hl := hev.length
      match vs, hl with
      | v :: u :: r, _ =>
        show RF F' w (.tup (d :: e :: l)) _
        rw [RF]
        exact ⟨_, rfl, by simpa using RFs_iff.2 hev⟩
  | own e sz xs =>
    obtain ⟨ds, vs, h1, h2, h3⟩ := resL_ok hi hr (show kResL ars s _ from hK)
    unfold kOwR at h3
    split at h3
    · rename_i k
      have hl := h2.length
      match vs, hl with
      | [v], _ =>
        rw [All2] at h2
        obtain ⟨v', r, e1, h5, h6⟩ := h2
        cases e1
        exact ⟨v, F, hres _ h1, hi.grow, hi.vec h3 h5⟩
    · have hl := h2.length
      match vs, hl with
      | [v], _ =>
        rw [All2] at h2
        obtain ⟨v', r, e1, h5, h6⟩ := h2
        cases e1
        subst h3
        exact ⟨v, F, hres _ h1, hi.grow, by simp, .inl ⟨rfl, RV_e0 h5⟩⟩
    · exact h3.elim
  | ownm kk es =>
    obtain ⟨ds, vs, h1, h2, h3⟩ := resL_ok hi hr (show kResL ars s _ from hK)
    unfold kOwM at h3
    split at h3
    · rename_i k
      have hl := h2.length
      match vs, hl with
      | [v], _ =>
        rw [All2] at h2
        obtain ⟨v', r, e1, h5, h6⟩ := h2
        cases e1
        obtain ⟨r, arr, clk, e1, _, g1, g2, g3, g4⟩ := hi.mapAt h3 h5
        exact ⟨v, F, hres _ h1, hi.grow, r, arr, clk, e1, g1, g2, g3, g4⟩
    · exact h3.elim

/-! ### the beginning -/
theorem VecOK.strong {N N' : Nat → Prop} {e sz : Nat} {xs : List (List DV)} {v : Value} (hv : VecOK F w N e sz xs v) (h : ∀ b, hblk v = some b → N' b) : VecOK F w N' e sz xs v := by
  obtain ⟨hs, h2⟩ := hv
  refine ⟨hs, ?_⟩
  rcases h2 with h2 | ⟨g, cap, cur, rfl, hc, h3, r⟩
  · exact .inl h2
  · exact .inr ⟨g, cap, cur, rfl, hc, h g (by simp only [hblk, if_neg (Nat.pos_iff_ne_zero.1 hc)]), r⟩
theorem argE_get : ∀ (as : List RK) (n i : Nat) (d : DV), (argE n as)[i]? = some d → (as[i]? = some (.fz d)) ∨ (∃ e sz xs, as[i]? = some (.own e sz xs) ∧ d = .ow (n + i)) ∨ (∃ kk es, as[i]? = some (.ownm kk es))
  | [], n, i, d, h => by simp [argE] at h
  | .fz x :: r, n, 0, d, h => by simp [argE] at h; exact .inl (by simp [h])
  | .own e sz xs :: r, n, 0, d, h => by simp [argE] at h; exact .inr (.inl ⟨e, sz, xs, by simp, h.symm⟩)
  | .ownm kk es :: r, n, 0, d, h => .inr (.inr ⟨kk, es, rfl⟩)
  | .fz x :: r, n, i + 1, d, h => by
      simp only [argE, List.getElem?_cons_succ] at h
      rcases argE_get r (n + 1) i d h with h | ⟨e, sz, xs, h1, h2⟩ | ⟨kk, es, h1⟩
      · exact .inl (by simpa using h)
      · exact .inr (.inl ⟨e, sz, xs, by simpa using h1, by rw [h2]; congr 1; omega⟩)
      · exact .inr (.inr ⟨kk, es, by simpa using h1⟩)
  | .own _ _ _ :: r, n, i + 1, d, h => by
      simp only [argE, List.getElem?_cons_succ] at h
      rcases argE_get r (n + 1) i d h with h | ⟨e, sz, xs, h1, h2⟩ | ⟨kk, es, h1⟩
      · exact .inl (by simpa using h)
      · exact .inr (.inl ⟨e, sz, xs, by simpa using h1, by rw [h2]; congr 1; omega⟩)
      · exact .inr (.inr ⟨kk, es, by simpa using h1⟩)
  | .ownm _ _ :: r, n, i + 1, d, h => by
      simp only [argE, List.getElem?_cons_succ] at h
      rcases argE_get r (n + 1) i d h with h | ⟨e, sz, xs, h1, h2⟩ | ⟨kk, es, h1⟩
      · exact .inl (by simpa using h)
      · exact .inr (.inl ⟨e, sz, xs, by simpa using h1, by rw [h2]; congr 1; omega⟩)
      · exact .inr (.inr ⟨kk, es, by simpa using h1⟩)
theorem argE_length : ∀ (as : List RK) (n : Nat), (argE n as).length = as.length
  | [], _ => rfl
  | .fz _ :: r, n => by simp [argE, argE_length r]
  | .own _ _ _ :: r, n => by simp [argE, argE_length r]
  | .ownm _ _ :: r, n => by simp [argE, argE_length r]
theorem argM_get : ∀ (as : List RK) (n k : Nat) (blk : Blk), mget (argM n as) k = some blk → ∃ i e sz xs, k = n + i ∧ as[i]? = some (.own e sz xs) ∧ blk = .vec e sz xs
  | [], n, k, blk, h => by simp [argM, mget] at h
  | .fz _ :: r, n, k, blk, h => by
      simp only [argM] at h
      obtain ⟨i, e, sz, xs, h1, h2, h3⟩ := argM_get r (n + 1) k blk h
      exact ⟨i + 1, e, sz, xs, by omega, by simpa using h2, h3⟩
  | .ownm _ _ :: r, n, k, blk, h => by
      simp only [argM] at h
      obtain ⟨i, e, sz, xs, h1, h2, h3⟩ := argM_get r (n + 1) k blk h
      exact ⟨i + 1, e, sz, xs, by omega, by simpa using h2, h3⟩
  | .own e sz xs :: r, n, k, blk, h => by
      simp only [argM, mget] at h
      split at h
      · rename_i hk
        cases h
        exact ⟨0, e, sz, xs, by omega, by simp, rfl⟩
      · obtain ⟨i, e, sz, xs, h1, h2, h3⟩ := argM_get r (n + 1) k blk h
        exact ⟨i + 1, e, sz, xs, by omega, by simpa using h2, h3⟩

/-- where a call begins -/
theorem entry_ok {fn : Func} {as : List RK} {n : Nat} (hnt : fn.ntmps = n + as.length) {F : Frz} {w : World} {vs : Array Value} (hfwf : ∀ b o, F b o → b < w.heap.size) (hargs : All2 (ArgOK F w) as vs.toList)
    (hdis : ∀ (i j : Nat) e sz xs e' sz' xs' v v' b, as[i]? = some (.own e sz xs) → as[j]? = some (.own e' sz' xs') → vs[i]? = some v → vs[j]? = some v' → hblk v = some b → hblk v' = some b → i = j) :
    ∃ M, Inv (ownB as vs.toList) F w M F (argE 0 as ++ List.replicate n .any) (argM 0 as) { tmps := vs ++ Array.replicate (fn.ntmps - vs.size) undef, defers := [] } w := by
  have hl : vs.size = as.length := by simpa using hargs.length
  let M : Hnd := fun i => match as[i]? with
    | some (.own _ _ _) => vs[i]?
    | _ => none
  have hvs : ∀ (i : Nat) r, as[i]? = some r → ∃ v, vs[i]? = some v ∧ ArgOK F w r v := fun i r hi => by
    obtain ⟨v, h1, h2⟩ := hargs.get i r hi
    exact ⟨v, by simpa using h1, h2⟩
  have hM : ∀ i e sz xs, as[i]? = some (.own e sz xs) → M i = vs[i]? := fun i e sz xs h => by simp [M, h]
  have hM' : ∀ i v, M i = some v → ∃ e sz xs, as[i]? = some (.own e sz xs) ∧ vs[i]? = some v := fun i v h => by
    simp only [M] at h
    split at h
    · rename_i e sz xs h1; exact ⟨e, sz, xs, h1, h⟩
    · cases h
  have hi : Inv (ownB as vs.toList) F w M F (argE 0 as ++ List.replicate n .any) (argM 0 as) { tmps := vs ++ Array.replicate (fn.ntmps - vs.size) undef, defers := [] } w := by
    refine ⟨rfl, ?_, ?_, ?_, ⟨fun _ _ h => h, fun _ _ h => .inl h, hfwf, Nat.le_refl _, fun _ _ _ => rfl, rfl, rfl, rfl⟩⟩
    · have e : (vs ++ Array.replicate (fn.ntmps - vs.size) undef).toList = vs.toList ++ List.replicate n undef := by
        have : fn.ntmps - vs.size = n := by omega
        simp [this]
      show All2 _ _ (vs ++ Array.replicate (fn.ntmps - vs.size) undef).toList
      rw [e]
      refine All2.append (All2.of_get (by simp [argE_length, hl]) fun i d v h1 h2 => ?_) (All2.of_get (by simp) fun i d v h1 h2 => ?_)
      · rcases argE_get as 0 i d h1 with h3 | ⟨e, sz, xs, h3, rfl⟩ | ⟨kk, es, h3⟩
        · obtain ⟨v', e1, e2⟩ := hargs.get i _ h3
          rw [h2] at e1; cases e1
          exact RV_of_RF e2
        · obtain ⟨v', e1, e2⟩ := hargs.get i _ h3
          rw [h2] at e1; cases e1
          have e2 : VecOK F w _ e sz xs v := e2
          obtain ⟨A, cap, e4, _⟩ := e2.slice
          have e5 : M i = some v := by rw [hM i e sz xs h3]; simpa using h2
          rw [Nat.zero_add]
          rw [e4] at e5 ⊢
          exact mk_ow e5
        · obtain ⟨v', e1, e2⟩ := hargs.get i _ h3
          exact e2.elim
      · have : d = .any := by
          rw [List.getElem?_replicate] at h1
          split at h1
          · exact (Option.some.inj h1).symm
          · cases h1
        subst this
        exact RV_RVc RVc_any
    · intro k blk hk
      obtain ⟨i, e, sz, xs, h1, h2, rfl⟩ := argM_get as 0 k blk hk
      rw [Nat.zero_add] at h1; subst h1
      obtain ⟨v, h3, h4⟩ := hvs k _ h2
      refine ⟨v, by rw [hM k e sz xs h2]; exact h3, ?_⟩
      exact VecOK.strong (show VecOK F w _ e sz xs v from h4) fun b hb => .inr ⟨k, e, sz, xs, v, h2, by simpa using h3, hb⟩
    · intro k k' blk blk' v v' b h1 h2 h3 h4 h5 h6
      obtain ⟨e, sz, xs, g1, g2⟩ := hM' k v h3
      obtain ⟨e', sz', xs', g3, g4⟩ := hM' k' v' h4
      exact hdis k k' e sz xs e' sz' xs' v v' b g1 g3 g2 g4 h5 h6
  exact ⟨M, hi⟩
theorem spec_of {fl : List Nat} {f : Nat} {fn : Func} {c : Code} {as : List RK} {ars : List AR} {ac : AC} {r : RK} {n : Nat} (hf : P.funcs[f]? = some fn) (hn : (fn.name == "runtime.NumGoroutine") = false) (hb : fn.body = some c) (hnt : fn.ntmps = n + as.length)
    (hc : trCodeF P fl c = some (strip ac)) (hr : trRes P fn.results.toList = some ars) (h : dwp P ac ⟨argE 0 as ++ List.replicate n .any, argM 0 as⟩ (Qret ars r)) : Spec P f as r := by
  refine ⟨by unfold callable; rw [hf]; simp [hb, hn], ?_⟩
  intro F w vs hfwf hargs hdis
  obtain ⟨M, hi⟩ := entry_ok hnt hfwf hargs hdis
  refine calls_of_wp hf hb (wp_mono (dwp_sound ac hc hi h) ?_)
  intro e a w' hq
  have fin : Gd (ownB as vs.toList) F w (kRet ars r) a w' → a.defers = [] ∧ ∃ v, (results fn a.tmps).run P w' = .ok v w' ∧ ∃ v' F', Ending.returned v = .returned v' ∧ Grow (ownB as vs.toList) F w F' w' ∧ ResOK F' w' (Nw (ownB as vs.toList) w) r v' := by
    rintro ⟨s, M', F', hi', hk⟩
    obtain ⟨v, F'', h1, h2, h3⟩ := ret_ok hi' hr hk
    exact ⟨hi'.dl, v, h1, v, F'', rfl, h2, h3⟩
  cases e with
  | normal => exact fin hq
  | ret => exact fin hq
  | exit id => obtain ⟨_, _, _, _, h⟩ := hq; exact h.elim
  | panic ch => obtain ⟨_, _, _, _, _, _, _, _, h⟩ := hq; exact h.elim
  | _ => exact hq.elim
/-- what a function that panics leaves -/
def QretP (d : DV) (e : AE) (_ : DS) : Prop :=
  match e with
  | .pan d' => subD d' d
  | _ => False
theorem specP_of {fl : List Nat} {f : Nat} {fn : Func} {c : Code} {ds : List DV} {ac : AC} {d : DV} {n : Nat} (hf : P.funcs[f]? = some fn) (hn : (fn.name == "runtime.NumGoroutine") = false) (hb : fn.body = some c) (hnt : fn.ntmps = n + ds.length)
    (hc : trCodeF P fl c = some (strip ac)) (h : dwp P ac ⟨argE 0 (ds.map .fz) ++ List.replicate n .any, argM 0 (ds.map .fz)⟩ (QretP d)) : SpecP P f ds d := by
  refine ⟨by unfold callable; rw [hf]; simp [hb, hn], ?_⟩
  intro F w vs hfwf hargs
  have hno : ∀ (i : Nat) e sz xs, (ds.map RK.fz)[i]? ≠ some (.own e sz xs) := by
    intro i e sz xs h1
    rw [List.getElem?_map] at h1
    cases hd : ds[i]? <;> simp [hd] at h1
  obtain ⟨M, hi⟩ := entry_ok (fn := fn) (n := n) (as := ds.map .fz) (by simpa using hnt) hfwf (hargs.map RK.fz fun _ _ hh => hh) (fun i j e sz xs _ _ _ _ _ _ h1 => absurd h1 (hno i e sz xs))
  refine calls_of_wp hf hb (wp_mono (dwp_sound ac hc hi h) ?_)
  intro e a w' hq
  cases e with
  | panic ch =>
    obtain ⟨s', M', F', d', v, rfl, hr, hi', hz⟩ := hq
    have hg : Grow (ownB (ds.map .fz) vs.toList) F w F' w' := hi'.grow
    refine ⟨hi'.dl, v, F', rfl, ⟨hg.sub, fun b o hb => ?_, hg.fwf, hg.size, fun b h1 _ => hg.block b h1 own_none, hg.os, hg.tape, hg.output⟩, RF.sub d' d v hz hr⟩
    rcases hg.new b o hb with h | h | h
    · exact .inl h
    · exact .inr (.inl h)
    · exact absurd h own_none
  | normal => obtain ⟨_, _, _, _, h⟩ := hq; exact h.elim
  | ret => obtain ⟨_, _, _, _, h⟩ := hq; exact h.elim
  | exit id => obtain ⟨_, _, _, _, h⟩ := hq; exact h.elim
  | _ => exact hq.elim
end
end Go.Proofs.YtcolebkklojccaaGreat.E
