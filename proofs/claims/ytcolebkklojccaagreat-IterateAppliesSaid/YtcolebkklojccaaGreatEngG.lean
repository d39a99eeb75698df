/-
  The engine, part G: the steps are sound, one by one.
-/
import Derived.Test.YtcolebkklojccaaGreatEngF
import Derived.Laws.StructEq
import Derived.ChangeKeysEq
set_option linter.unusedVariables false
set_option linter.unusedSimpArgs false
namespace Go.Proofs.YtcolebkklojccaaGreat.E
open Go

section
variable {P : Program} {O : Nat → Prop} {F0 : Frz} {w0 : World} {M : Hnd} {F : Frz} {a : Act} {w w' : World} {s : DS} {K : DS → Prop} {Q : Exit → Act → World → Prop} {o : Oper}

theorem run_v {x : Sem Value} {v : Value} (h : x.run P w = .ok v w') : ((do pure (Next.value (← x))) : Sem Next).run P w = .ok (.value v) w' := by
  simp [h]
theorem run_u {x : Sem Unit} (h : x.run P w = .ok () w') : ((do x; pure Next.skip) : Sem Next).run P w = .ok .skip w' := by
  simp [h]
theorem run_sizeOf {t : TypeId} {n : Nat} (h : szT P t = some n) (w : World) : (sizeOf t).run P w = .ok n w := by
  simp only [szT, Option.map_eq_some_iff] at h
  obtain ⟨i, h1, h2⟩ := h
  simp [sizeOf, typeInfo, h1, h2]
theorem run_isAgg {t : TypeId} {d : TypeDesc} (h : P.underlying t = some d) (w : World) : (isAgg t).run P w = .ok (isAggD d) w := by
  simp only [isAgg, Sem.run_bind, run_underlying h, Result.andThen_ok]
  cases d <;> rfl

/-! ### the cells behind a pointer -/
/-- what the cells at an address read as -/
def CellsAt (M : Hnd) (F : Frz) (w : World) (cs : List DV) (b off : Nat) : Prop :=
  ∀ (i : Nat) d, cs[i]? = some d → ∃ u, w.cell? ⟨b, off + i, none⟩ = some u ∧ u.oneCell' = true ∧ RVc M F w d u
theorem CellsAt.of_RFC {cs : List DV} {b off : Nat} (h : RFC F w cs b off) : CellsAt M F w cs b off := fun i d hi => by
  obtain ⟨u, h1, h2, h3⟩ := h.get i d hi
  exact ⟨u, h1, h2.2, RVc_of_RF h3⟩
theorem CellsAt.load {cs : List DV} {b off : Nat} (h : CellsAt M F w cs b off) : ∃ arr : Array Value, (loadCells ⟨b, off, none⟩ cs.length).run P w = .ok arr w ∧ (∀ u ∈ arr.toList, u.oneCell' = true) ∧ All2 (RVc M F w) cs arr.toList := by
  have hx : ∃ l : List Value, l.length = cs.length ∧ (∀ (i : Nat) v, l[i]? = some v → w.cell? ⟨b, off + i, none⟩ = some v) ∧ (∀ u ∈ l, u.oneCell' = true) ∧ All2 (RVc M F w) cs l := by
    induction cs generalizing off with
    | nil => exact ⟨[], rfl, by simp, by simp, All2.nil⟩
    | cons c cs ih =>
      obtain ⟨u, h1, h2, h3⟩ := h 0 c rfl
      obtain ⟨l, hl, hg, ho, hr⟩ := ih (off := off + 1) fun i d hi => by
        obtain ⟨u', e1, e2, e3⟩ := h (i + 1) d (by simpa using hi)
        exact ⟨u', by rw [← e1]; congr 2; omega, e2, e3⟩
      refine ⟨u :: l, by simp [hl], ?_, by simpa using ⟨h2, ho⟩, All2.cons h3 hr⟩
      intro i v hi
      cases i with
      | zero => simp at hi; subst hi; exact h1
      | succ i =>
        have := hg i v (by simpa using hi)
        have e : off + (i + 1) = off + 1 + i := by omega
        rw [e]; exact this
  obtain ⟨l, hl, hg, ho, hr⟩ := hx
  refine ⟨l.toArray, ?_, by simpa using ho, by simpa using hr⟩
  rw [← hl]
  exact run_loadCells_list w ⟨b, off, none⟩ l fun j v hj => by rw [Addr.add_lit]; exact hg j v hj
theorem CellsAt.take {cs : List DV} {b off : Nat} (h : CellsAt M F w cs b off) (n : Nat) : CellsAt M F w (cs.take n) b off := fun i d hi => by
  rw [List.getElem?_take] at hi
  split at hi
  · exact h i d hi
  · cases hi
theorem CellsAt.drop {cs : List DV} {b off : Nat} (h : CellsAt M F w cs b off) (n : Nat) : CellsAt M F w (cs.drop n) b (off + n) := fun i d hi => by
  rw [List.getElem?_drop] at hi
  obtain ⟨u, h1, h2⟩ := h _ d hi
  exact ⟨u, by rw [← h1]; congr 2; omega, h2⟩
theorem CellsAt.of_block {b : Nat} {arr : Array Value} {t : TypeId} {fr : Nat × Nat} (hb : w.heap[b]? = some (.cells arr t fr)) (h1 : ∀ u ∈ arr.toList, u.oneCell' = true) {cs : List DV} (h2 : All2 (RVc M F w) cs arr.toList) : CellsAt M F w cs b 0 := fun i d hi => by
  obtain ⟨u, hu, hr⟩ := h2.get i d hi
  refine ⟨u, ?_, h1 u (List.mem_of_getElem? hu), hr⟩
  rw [Nat.zero_add, cell_of_row w b i arr t fr hb]
  simpa using hu
theorem Inv.box {env : List DV} {mem : Mem} (hi : Inv O F0 w0 M F env mem a w) {k : Nat} {cs : List DV} (hk : mget mem k = some (.box cs)) {off : Nat} {v : Value} (hv : RV M F w (.ml k off) v) :
    ∃ b arr t, M k = some (.pointer (some ⟨b, 0, none⟩)) ∧ v = .pointer (some ⟨b, off, none⟩) ∧ w.heap[b]? = some (.cells arr t (0, 0)) ∧ (∀ u ∈ arr.toList, u.oneCell' = true) ∧ All2 (RVc M F w) cs arr.toList := by
  obtain ⟨b, arr, t, h1, h2, h3, h4, h5, h6⟩ := hi.mm k _ hk
  obtain ⟨b', e1, e2⟩ := (show RVc M F w (.ml k off) v from hv)
  rw [h1] at e1; cases e1
  exact ⟨b, arr, t, h1, e2, h3, h4, h5⟩
theorem Inv.vecAt {env : List DV} {mem : Mem} (hi : Inv O F0 w0 M F env mem a w) {k e s : Nat} {xs : List (List DV)} (hk : mget mem k = some (.vec e s xs)) {u : Value} (hM : M k = some u) {i : Nat} (hlt : i < xs.length) :
    ∃ b cap arr, u = .slice (some ⟨b, 0, none⟩) xs.length cap ∧ w.heap[b]? = some (.cells arr e (0, 0)) ∧ CellsAt M F w (xs.getD i []) b (i * s) := by
  obtain ⟨v, h1, hs, h2⟩ := hi.mm k _ hk
  rw [hM] at h1; cases h1
  rcases h2 with ⟨e1, _⟩ | ⟨g, cap, cur, e1, _, _, _, h3, h4, h5, h7, ho, h2⟩
  · subst e1; simp at hlt
  · refine ⟨g, cap, cur, e1, h3, ?_⟩
    have hx : xs[i]? = some xs[i] := List.getElem?_eq_getElem hlt
    have hgd : xs.getD i [] = xs[i] := by simp [List.getD, hx]
    rw [hgd]
    intro j d hj
    have hjl : j < s := by rw [← hs xs[i] (List.getElem_mem hlt)]; exact (List.getElem?_eq_some_iff.1 hj).1
    have hfl : xs.flatten[i * s + j]? = some d := by
      have := flat_drop i hs
      have h8 : (xs.flatten.drop (i * s))[j]? = some d := by
        rw [this]
        have : xs.drop i = xs[i] :: xs.drop (i + 1) := List.drop_eq_getElem_cons hlt
        rw [this, List.flatten_cons, List.getElem?_append_left (by rw [hs _ (List.getElem_mem hlt)]; exact hjl)]
        exact hj
      rwa [List.getElem?_drop] at h8
    obtain ⟨u, hu, hr⟩ := h2.get _ d hfl
    refine ⟨u, ?_, ho u (List.mem_of_getElem? hu), RVc_of_RF hr⟩
    rw [cell_of_row w g _ cur e (0, 0) h3]
    rw [List.getElem?_take] at hu
    split at hu
    · simpa using hu
    · cases hu

theorem loadVar_ok {t : TypeId} {d : TypeDesc} {n : Nat} (hd : P.underlying t = some d) (hn : szT P t = some n) (h1 : (isAggD d || n == 1) = true) {cs : List DV} {b off : Nat} (hc : CellsAt M F w cs b off)
    {KK : DV → Prop} (hK : takeK (isAggD d) n cs KK) : ∃ x v, (loadVar t ⟨b, off, none⟩).run P w = .ok v w ∧ RV M F w x v ∧ KK x := by
  unfold loadVar
  simp only [Sem.run_bind, run_isAgg hd, Result.andThen_ok]
  cases hag : isAggD d with
  | true =>
    rw [hag] at hK
    obtain ⟨h2, h3⟩ := hK
    obtain ⟨arr, e1, e2, e3⟩ := (hc.take n).load (P := P)
    have hl : (cs.take n).length = n := by simp; omega
    rw [hl] at e1
    refine ⟨_, .agg arr, ?_, mkAgg_RV e2 e3, h3⟩
    simp [run_sizeOf hn, e1]
  | false =>
    rw [hag] at hK
    cases cs with
    | nil => exact hK.elim
    | cons c cs =>
      obtain ⟨u, e1, e2, e3⟩ := hc 0 c rfl
      refine ⟨c, u, ?_, RV_RVc e3, hK⟩
      simp only [Bool.false_eq_true, if_false, run_load]
      rw [Nat.add_zero] at e1
      rw [e1]
theorem sound_ld (hi : Inv O F0 w0 M F s.env s.mem a w) {t : TypeId} {p : Operand} {ap : AX} {d : TypeDesc} {n : Nat} (ho : o.op = .load t p) (hd : P.underlying t = some d) (hn : szT P t = some n)
    (h1 : (isAggD d || n == 1) = true) (hp : trX p = some ap) (hK : kLd (isAggD d) n (ev s.env ap) s.mem (kPut o.dst s K)) : o.wp P a w (Gd O F0 w0 K) Q := by
  have hv := trX_ok hp hi
  have fin : ∀ {cs : List DV} {b off : Nat}, a.eval p = .pointer (some ⟨b, off, none⟩) → CellsAt M F w cs b off → takeK (isAggD d) n cs (kPut o.dst s K) → o.wp P a w (Gd O F0 w0 K) Q := by
    intro cs b off he hc hk
    obtain ⟨x, v, hr, hR, hk'⟩ := loadVar_ok hd hn h1 hc hk
    refine wp_put ?_ hi hR hk'
    unfold execOp
    rw [ho]
    exact run_v (by simp only [Instr.loadAt, he, Instr.sureAddr, Sem.run_bind, Sem.run_pure, Result.andThen_ok, hr])
  cases hx : ev s.env ap with
  | pf cs =>
    rw [hx] at hv hK
    have hv : RF F w (.pf cs) _ := hv
    rw [RF] at hv
    obtain ⟨b, off, e1, e2⟩ := hv
    refine fin e1 (CellsAt.of_RFC e2) ?_
    cases hag : isAggD d with
    | true =>
      rw [hag] at hK
      refine ⟨hK.1, ?_⟩
      have : mkAgg (cs.take n) = .agg (cs.take n) := by
        unfold mkAgg
        rw [if_pos]
        have hfz : ∀ d ∈ cs, isFz d = true := by
          intro d hd
          obtain ⟨i, hi⟩ := List.getElem?_of_mem hd
          obtain ⟨u, _, _, h3⟩ := e2.get i d hi
          cases d <;> first | rfl | (simp only [RF] at h3)
        simp only [List.all_eq_true]
        exact fun d hd => hfz d (List.mem_of_mem_take hd)
      rw [this]; exact hK.2
    | false => rw [hag] at hK; exact hK
  | ml k off =>
    rw [hx] at hv hK
    simp only [kLd] at hK
    cases hm : mget s.mem k with
    | none => rw [hm] at hK; exact hK.elim
    | some blk =>
      rw [hm] at hK
      cases blk with
      | vec e sz xs => exact hK.elim
      | mp kk es => exact hK.elim
      | box cs =>
        obtain ⟨b, arr, t', g1, g2, g3, g4, g5⟩ := hi.box hm hv
        refine fin g2 ?_ hK
        have := (CellsAt.of_block g3 g4 g5).drop off
        rwa [Nat.zero_add] at this
  | ve k sz i off =>
    rw [hx] at hv hK
    simp only [kLd] at hK
    cases hm : mget s.mem k with
    | none => rw [hm] at hK; exact hK.elim
    | some blk =>
      rw [hm] at hK
      cases blk with
      | box cs => exact hK.elim
      | mp kk es => exact hK.elim
      | vec e s' xs =>
        obtain ⟨q1, q2, q3⟩ := hK
        subst q1
        obtain ⟨b, n', c, g1, g2⟩ := (show RVc M F w (.ve k s' i off) _ from hv)
        obtain ⟨b', cap, arr, g3, g4, g5⟩ := hi.vecAt hm g1 q2
        cases g3
        exact fin g2 (g5.drop off) q3
  | _ => rw [hx] at hK; exact hK.elim
end
end Go.Proofs.YtcolebkklojccaaGreat.E
