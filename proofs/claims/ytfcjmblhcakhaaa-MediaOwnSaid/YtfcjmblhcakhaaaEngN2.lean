/-
  The engine, part N2: maps of the activation's own.
-/
import Derived.Test.YtfcjmblhcakhaaaEngN
import Derived.MapKept
set_option linter.unusedVariables false
set_option linter.unusedSimpArgs false
set_option linter.unusedSimpArgs false
set_option linter.unusedVariables false
namespace Go.Proofs.Ytfcjmblhcakhaaa.E
open Go Go.MapKept

section
variable {kk : KK} {q : DV}
theorem mpLk_none : ∀ {es : List (DV × DV)}, (∀ p ∈ es, eqK kk q p.1 = false) → mpLk kk es q = none
  | [], _ => rfl
  | (k, v) :: r, h => by
    have h1 : eqK kk q k = false := h (k, v) (by simp)
    simp only [mpLk, h1, Bool.false_eq_true, if_false]
    exact mpLk_none fun p hp => h p (by simp [hp])
theorem mpLk_some {p : DV × DV} {l2 : List (DV × DV)} (hp : eqK kk q p.1 = true) : ∀ {l1 : List (DV × DV)}, (∀ p ∈ l1, eqK kk q p.1 = false) → mpLk kk (l1 ++ p :: l2) q = some p.2
  | [], _ => by simp [mpLk, hp]
  | (k, v) :: r, h => by
    have h1 : eqK kk q k = false := h (k, v) (by simp)
    simp only [List.cons_append, mpLk, h1, Bool.false_eq_true, if_false]
    exact mpLk_some hp fun p hp => h p (by simp [hp])
theorem mpPut_none {u : DV} : ∀ {es : List (DV × DV)}, (∀ p ∈ es, eqK kk q p.1 = false) → mpPut kk es q u = es ++ [(q, u)]
  | [], _ => rfl
  | (k, v) :: r, h => by
    have h1 : eqK kk q k = false := h (k, v) (by simp)
    simp only [mpPut, h1, Bool.false_eq_true, if_false, List.cons_append]
    rw [mpPut_none fun p hp => h p (by simp [hp])]
theorem mpPut_some {u : DV} {p : DV × DV} {l2 : List (DV × DV)} (hp : eqK kk q p.1 = true) : ∀ {l1 : List (DV × DV)}, (∀ p ∈ l1, eqK kk q p.1 = false) → mpPut kk (l1 ++ p :: l2) q u = l1 ++ (q, u) :: l2
  | [], _ => by
    obtain ⟨k, v⟩ := p
    simp only [List.nil_append, mpPut]
    rw [if_pos hp]
  | (k, v) :: r, h => by
    have h1 : eqK kk q k = false := h (k, v) (by simp)
    simp only [List.cons_append, mpPut, h1, Bool.false_eq_true, if_false]
    rw [mpPut_some hp fun p hp => h p (by simp [hp])]
theorem mpRem_none : ∀ {es : List (DV × DV)}, (∀ p ∈ es, eqK kk q p.1 = false) → mpRem kk es q = es
  | [], _ => rfl
  | (k, v) :: r, h => by
    have h1 : eqK kk q k = false := h (k, v) (by simp)
    simp only [mpRem, h1, Bool.false_eq_true, if_false]
    rw [mpRem_none fun p hp => h p (by simp [hp])]
theorem mpRem_some {p : DV × DV} {l2 : List (DV × DV)} (hp : eqK kk q p.1 = true) : ∀ {l1 : List (DV × DV)}, (∀ p ∈ l1, eqK kk q p.1 = false) → mpRem kk (l1 ++ p :: l2) q = l1 ++ l2
  | [], _ => by
    obtain ⟨k, v⟩ := p
    simp only [List.nil_append, mpRem]
    rw [if_pos hp]
  | (k, v) :: r, h => by
    have h1 : eqK kk q k = false := h (k, v) (by simp)
    simp only [List.cons_append, mpRem, h1, Bool.false_eq_true, if_false]
    rw [mpRem_some hp fun p hp => h p (by simp [hp])]
end

section
variable {P : Program} {O : Nat → Prop} {F0 : Frz} {w0 : World} {M : Hnd} {F : Frz} {a : Act} {w w' : World} {s : DS} {K : DS → Prop} {Q : Exit → Act → World → Prop} {o : Oper}

/-- what a search says -/
def Found (kk : KK) (q : DV) (es : List (DV × DV)) (arr : List MapEntry) (r : Option (Nat × Value)) : Prop :=
  (r = none ∧ ∀ p ∈ es, eqK kk q p.1 = false) ∨
  ∃ l1 p l2 e, es = l1 ++ p :: l2 ∧ (∀ p' ∈ l1, eqK kk q p'.1 = false) ∧ eqK kk q p.1 = true ∧ arr[l1.length]? = some e ∧ r = some (l1.length, e.val)

theorem pl_same {k : TypeId} {pk : PK} (hk : plainEq P k = some pk) {x y : DV} {u v : Value} (hx : isPl pk x = true) (hy : isPl pk y = true) (hu : RF F w x u) (hv : RF F w y v) {d : TypeDesc} (hd : P.underlying k = some d) :
    Instr.sameNow d u v = some (eqK (.pl pk) x y) ∧ (∀ e n W, (Instr.checkKey e (n + 1) k u).run P W = .ok () W) ∧ (eqK (.pl pk) x y = true → Instr.sameBits 10000 v u = true) := by
  unfold plainEq at hk
  rw [hd] at hk
  cases pk <;> cases x <;> try (simp [isPl] at hx; done)
  all_goals cases y <;> try (simp [isPl] at hy; done)
  · rw [RF] at hu hv
    subst hu; subst hv
    cases d <;> simp at hk
    refine ⟨by simp [Instr.sameNow, eqK, eqKey, eqP], fun e n W => by simp [Instr.checkKey, run_underlying hd], fun h => ?_⟩
    simp [eqK, eqKey, eqP] at h
    simp [Instr.sameBits, h]
  · rename_i k1 a k2 b
    rw [RF] at hu hv
    subst hu; subst hv
    cases d <;> simp at hk
    cases k1 <;> simp [isPl] at hx
    cases k2 <;> simp [isPl] at hy
    refine ⟨by simp [Instr.sameNow, eqK, eqKey, eqP], fun e n W => by simp [Instr.checkKey, run_underlying hd], fun h => ?_⟩
    simp [eqK, eqKey, eqP] at h
    simp [Instr.sameBits, h]
  · rw [RF] at hu hv
    obtain ⟨rfl, _⟩ := hu
    obtain ⟨rfl, _⟩ := hv
    cases d <;> simp at hk
    rename_i a b _ _
    have e : ∀ a b : List UInt8, ((⟨a.toArray⟩ : ByteArray) == ⟨b.toArray⟩) = (a == b) := by
      intro a b
      show (a.toArray == b.toArray) = _
      simp
    refine ⟨by simp [Instr.sameNow, eqK, eqKey, eqP, e], fun e n W => by simp [Instr.checkKey, run_underlying hd], fun h => ?_⟩
    simp [eqK, eqKey, eqP] at h
    subst h
    simp [Instr.sameBits, e]

theorem findNow_ok {pk : PK} {q : DV} {v : Value} {d : TypeDesc} (hs : ∀ y u, isPl pk y = true → RF F w y u → Instr.sameNow d v u = some (eqK (.pl pk) q y)) : ∀ {es : List (DV × DV)} {arr : List MapEntry}, All2 (EntOK F w (.pl pk)) es arr → ∀ i,
    (Instr.findNow d v arr i = some none ∧ ∀ p ∈ es, eqK (.pl pk) q p.1 = false) ∨
    ∃ l1 p l2 e, es = l1 ++ p :: l2 ∧ (∀ p' ∈ l1, eqK (.pl pk) q p'.1 = false) ∧ eqK (.pl pk) q p.1 = true ∧ arr[l1.length]? = some e ∧ Instr.findNow d v arr i = some (some (i + l1.length, e.val))
  | [], arr, h, i => by
    rw [All2] at h
    subst h
    exact .inl ⟨rfl, by simp⟩
  | p :: es, arr, h, i => by
    rw [All2] at h
    obtain ⟨e, r, rfl, h1, h2⟩ := h
    have h3 := hs p.1 e.key h1.1 h1.2.1
    cases hb : eqK (.pl pk) q p.1 with
    | true =>
      rw [hb] at h3
      exact .inr ⟨[], p, es, e, rfl, by simp, hb, rfl, by simp [Instr.findNow, h3]⟩
    | false =>
      rw [hb] at h3
      rcases findNow_ok hs h2 (i + 1) with ⟨g1, g2⟩ | ⟨l1, p', l2, e', g1, g2, g3, g4, g5⟩
      · exact .inl ⟨by simp [Instr.findNow, h3, g1], by
          intro p' hp'
          rcases List.mem_cons.1 hp' with rfl | hp'
          · exact hb
          · exact g2 p' hp'⟩
      · refine .inr ⟨p :: l1, p', l2, e', by rw [g1]; rfl, ?_, g3, by simpa using g4, ?_⟩
        · intro p2 hp2
          rcases List.mem_cons.1 hp2 with rfl | hp2
          · exact hb
          · exact g2 p2 hp2
        · simp only [Instr.findNow, h3, g5, List.length_cons]
          congr 3
          omega

theorem keyKK_pl {k : TypeId} {kk : KK} (h : keyKK P k = some kk) : ∃ pk, kk = .pl pk ∧ plainEq P k = some pk := by
  unfold keyKK at h
  split at h
  · rename_i pk hk
    cases h
    exact ⟨pk, rfl, hk⟩
  · cases h

theorem find_ok {k : TypeId} {kk : KK} (hk : keyKK P k = some kk) {q : DV} {v : Value} (hq : isKey kk q = true) (hv : RF F w q v) {es : List (DV × DV)} {arr : Array MapEntry} (h : All2 (EntOK F w kk) es arr.toList) (W : World) :
    (∀ e, (Instr.checkKey e 10000 k v).run P W = .ok () W) ∧ ∃ r, (Instr.findKey k v arr.toList).run P W = .ok r W ∧ Found kk q es arr.toList r := by
  obtain ⟨pk, rfl, hp⟩ := keyKK_pl hk
  have hd : ∃ d, P.underlying k = some d := by
    unfold plainEq at hp
    cases hu : P.underlying k with
    | none => rw [hu] at hp; cases hp
    | some d => exact ⟨d, rfl⟩
  obtain ⟨d, hd⟩ := hd
  refine ⟨fun e => (pl_same hp hq hq hv hv hd).2.1 e 9999 W, ?_⟩
  rcases findNow_ok (fun y u hy hu => (pl_same hp hq hy hv hu hd).1) h 0 with ⟨g1, g2⟩ | ⟨l1, p, l2, e, g1, g2, g3, g4, g5⟩
  · exact ⟨_, run_findKey hd g1, .inl ⟨rfl, g2⟩⟩
  · exact ⟨_, run_findKey hd g5, .inr ⟨l1, p, l2, e, g1, g2, g3, g4, by rw [Nat.zero_add]⟩⟩
theorem stays_ok {k : TypeId} {kk : KK} (hk : keyKK P k = some kk) {q y : DV} {v u : Value} (hq : isKey kk q = true) (hy : isKey kk y = true) (hv : RF F w q v) (hu : RF F w y u) (h : eqK kk q y = true) (W : World) : (Instr.keyThatStays u v).run P W = .ok v W := by
  obtain ⟨pk, rfl, hp⟩ := keyKK_pl hk
  have hd : ∃ d, P.underlying k = some d := by
    unfold plainEq at hp
    cases hu : P.underlying k with
    | none => rw [hu] at hp; cases hp
    | some d => exact ⟨d, rfl⟩
  obtain ⟨d, hd⟩ := hd
  have := (pl_same hp hq hy hv hu hd).2.2 h
  simp [Instr.keyThatStays, this]

theorem mapKK_ok {t : TypeId} {kk : KK} {z : DV} (h : mapKK P t = some (kk, z)) : ∃ k e, P.underlying t = some (.map k e) ∧ keyKK P k = some kk ∧ zero1 P e = some z := by
  unfold mapKK at h
  split at h <;> first | (cases h; done) | skip
  rename_i k e hu
  split at h <;> first | (cases h; done) | skip
  rename_i kk' z' h1 h2
  cases h
  exact ⟨k, e, hu, h1, h2⟩
theorem zero1_ok {t : TypeId} {z : DV} (h : zero1 P t = some z) : ∃ v, (∀ w : World, (zeroValue t).run P w = .ok v w) ∧ constS v = some z := by
  unfold zero1 at h
  split at h <;> first | (cases h; done) | skip
  rename_i i hi
  split at h <;> first | (cases h; done) | skip
  rename_i v hv
  refine ⟨v, fun w => ?_, h⟩
  simp [zeroValue, typeInfo, Sem.run, hi, hv]

/-- an own map -/
theorem Inv.mapAt {env : List DV} {mem : Mem} (hi : Inv O F0 w0 M F env mem a w) {j : Nat} {kk : KK} {es : List (DV × DV)} (hm : mget mem j = some (.mp kk es)) {v : Value} (hv : RV M F w (.ow j) v) :
    ∃ r arr clk, v = .map (some r) ∧ M j = some (.map (some r)) ∧ Nw O w0 r ∧ (∀ o, ¬ F r o) ∧ w.heap[r]? = some (.map arr clk) ∧ All2 (EntOK F w kk) es arr.toList := by
  obtain ⟨v', h1, r, arr, clk, e1, h2, h3, h4, h5⟩ := hi.mm j _ hm
  have h6 : M j = some v := (show RVc M F w (.ow j) v from hv).1
  rw [h1] at h6; cases h6
  exact ⟨r, arr, clk, e1, by rw [h1, e1], h2, h3, h4, h5⟩

theorem sound_mkm (hi : Inv O F0 w0 M F s.env s.mem a w) {t : TypeId} {r : Option Operand} {ar : Option AX} {kk : KK} {z : DV} (ho : o.op = .makeMap t r) (hm : mapKK P t = some (kk, z)) (hr : trO r = some ar)
    (hK : kMkm kk (evO s.env ar) o.dst s K) : o.wp P a w (Gd O F0 w0 K) Q := by
  obtain ⟨k, e, hu, _, _⟩ := mapKK_ok hm
  obtain ⟨hI, hK⟩ := hK
  have hrun : (execOp a.eval o).run P w = .ok (.value (.map (some w.heap.size))) (w.alloc (.map #[] 0)) := by
    unfold execOp
    rw [ho]
    refine run_v ?_
    cases r with
    | none => simp [Instr.makeMap, run_newObj, Result.andThen, World.alloc_eq]
    | some x =>
      simp only [trO, Option.map_eq_some_iff] at hr
      obtain ⟨ax, hx, rfl⟩ := hr
      have h1 := trX_ok hx hi
      simp only [evO] at hI
      cases hd : ev s.env ax <;> rw [hd] at hI h1 <;> first | exact hI.elim | skip
      have e1 := RV_int h1
      simp [Instr.makeMap, run_underlying hu, e1, asInt, asIntOf, run_newObj, Result.andThen, World.alloc_eq]
  cases hdst : o.dst with
  | none => rw [hdst] at hK; exact hK.elim
  | some d =>
    rw [hdst] at hK
    have hK : kBind (some d) s K (.ow d) (.mp kk []) := hK
    refine wp_bind (u := .map (some w.heap.size)) (blk := .mp kk []) (d := .ow d) hrun (hi.alloc _) ?_ ?_ ?_ (by rw [hdst]; exact hK)
    · intro k
      exact ⟨_, by simp [upd], w.heap.size, #[], 0, rfl, .inl hi.grow.size, fun o ho => Nat.lt_irrefl _ (hi.grow.fwf _ o ho), heap_alloc_new w _, by rw [All2]⟩
    · intro k j blk' v b _ e1 e2 e3 e4
      simp only [hblk, Option.some.injEq] at e4
      exact hi.fresh e1 e2 e3 e4.symm
    · intro k hk
      rw [hdst] at hk
      cases hk
      exact mk_owm (by simp [upd])

theorem sound_mlk (hi : Inv O F0 w0 M F s.env s.mem a w) {t : TypeId} {x i : Operand} {ax ai : AX} {kk : KK} {z : DV} (ho : o.op = .lookup t x i false) (hm : mapKK P t = some (kk, z)) (hx : trX x = some ax) (hk : trX i = some ai)
    (hK : kMlk kk z (ev s.env ax) (ev s.env ai) s.mem (kPut o.dst s K)) : o.wp P a w (Gd O F0 w0 K) Q := by
  have h1 := trX_ok hx hi
  have h2 := trX_ok hk hi
  obtain ⟨k, e, hu, hkk, hz⟩ := mapKK_ok hm
  obtain ⟨zv, hz1, hz2⟩ := zero1_ok hz
  cases hd : ev s.env ax <;> rw [hd] at hK h1 <;> first | exact hK.elim | skip
  rename_i j
  simp only [kMlk] at hK
  cases hg : mget s.mem j with
  | none => rw [hg] at hK; exact hK.elim
  | some blk =>
    rw [hg] at hK
    cases blk with
    | box cs => exact hK.elim
    | vec e' s' xs => exact hK.elim
    | mp kk' es =>
      obtain ⟨rfl, hkey, hK⟩ := hK
      obtain ⟨r, arr, clk, e1, hM, hN, hF, hheap, hall⟩ := hi.mapAt hg h1
      have h2' : RF F w (ev s.env ai) (a.eval i) := by
        have hf : isFz (ev s.env ai) = true := by
          cases kk' <;> cases hq : ev s.env ai <;> rw [hq] at hkey <;> first | rfl | (simp [isKey, isPl] at hkey)
        exact (RV_fz hf).1 h2
      obtain ⟨hc, res, hf, hfound⟩ := find_ok hkk hkey h2' hall w
      have hobj := MapKept.run_getObj_map (P := P) hheap
      rcases hfound with ⟨rfl, hno⟩ | ⟨l1, p, l2, en, rfl, hl1, hp, harr, rfl⟩
      · rw [mpLk_none hno] at hK
        refine wp_put (v := zv) (d := z) ?_ hi (RV_of_RF (constS_ok hz2 F w).1) hK
        unfold execOp
        rw [ho]
        refine run_v ?_
        rw [e1]
        simp [Instr.lookup, run_underlying hu, hobj, hc, hf, hz1, Result.andThen]
      · rw [mpLk_some hp hl1] at hK
        have hent : EntOK F w kk' p en := by
          obtain ⟨b', g1, g2⟩ := hall.get l1.length p (by simp)
          rw [harr] at g1
          cases g1
          exact g2
        refine wp_put (v := en.val) (d := p.2) ?_ hi (RV_of_RF hent.2.2.1) hK
        unfold execOp
        rw [ho]
        refine run_v ?_
        rw [e1]
        simp [Instr.lookup, run_underlying hu, hobj, hc, hf, Result.andThen]

theorem All2.splitAt {α β : Type} {R : α → β → Prop} {l1 : List α} {p : α} {l2 : List α} {bs : List β} (h : All2 R (l1 ++ p :: l2) bs) : ∃ b1 b b2, bs = b1 ++ b :: b2 ∧ b1.length = l1.length ∧ All2 R l1 b1 ∧ R p b ∧ All2 R l2 b2 := by
  induction l1 generalizing bs with
  | nil =>
    rw [List.nil_append, All2] at h
    obtain ⟨b, r, rfl, h1, h2⟩ := h
    exact ⟨[], b, r, rfl, rfl, All2.nil, h1, h2⟩
  | cons x l1 ih =>
    rw [List.cons_append, All2] at h
    obtain ⟨b, r, rfl, h1, h2⟩ := h
    obtain ⟨b1, b', b2, rfl, e, g1, g2, g3⟩ := ih h2
    exact ⟨b :: b1, b', b2, rfl, by simp [e], All2.cons h1 g1, g2, g3⟩

theorem sound_mset (hi : Inv O F0 w0 M F s.env s.mem a w) {j : Nat} {kk : KK} {es es' : List (DV × DV)} (hg : mget s.mem j = some (.mp kk es)) {r : Nat} (hM : M j = some (.map (some r))) {arr arr' : Array MapEntry} {clk clk' : Nat} (hheap : w.heap[r]? = some (.map arr clk))
    (hall : All2 (EntOK F w kk) es' arr'.toList) {nx : Next} (hnx : ∃ v, nx = .value v ∨ nx = .skip) (hrun : (execOp a.eval o).run P w = .ok nx { w with heap := w.heap.setIfInBounds r (.map arr' clk') }) (hd : o.dst = none)
    (hK : kS ⟨s.env, E.mset j (.mp kk es') s.mem⟩ K) : o.wp P a w (Gd O F0 w0 K) Q := by
  have hF := (hi.mm j _ hg).block hM rfl
  have hset := heap_set (o' := .map arr' clk') hheap
  have hkp : Keeps F w F { w with heap := w.heap.setIfInBounds r (.map arr' clk') } := hi.keeps (X := fun b => b = r) (fun b _ hb => hset.2 b hb) (fun b o hb => hb ▸ hF.2.1 o)
  have hi' : Inv O F0 w0 M F s.env (E.mset j (.mp kk es') s.mem) a { w with heap := w.heap.setIfInBounds r (.map arr' clk') } := by
    refine hi.mset hg hM rfl hset.2 (by simp) rfl rfl rfl ?_
    exact ⟨_, hM, r, arr', clk', rfl, hF.1, hF.2.1, hset.1, hall.mono fun _ _ => EntOK.mono hkp⟩
  obtain ⟨v, hnx⟩ := hnx
  unfold Oper.wp
  rw [hrun]
  rcases hnx with rfl | rfl
  · show Gd O F0 w0 K (a.put o.dst v) _
    rw [hd]
    exact ⟨_, M, F, hi', hK⟩
  · show Gd O F0 w0 K (a.put o.dst undef) _
    rw [hd]
    exact ⟨_, M, F, hi', hK⟩

theorem modify_mid {α : Type} (f : α → α) (b : α) (b2 : List α) : ∀ b1 : List α, (b1 ++ b :: b2).modify b1.length f = b1 ++ f b :: b2
  | [] => rfl
  | x :: b1 => by
    rw [List.cons_append, List.length_cons, List.modify_succ_cons, modify_mid f b b2 b1, List.cons_append]
theorem sound_mput (hi : Inv O F0 w0 M F s.env s.mem a w) {t : TypeId} {x i y : Operand} {ax ai ay : AX} {kk : KK} {z : DV} (ho : o.op = .mapUpdate t x i y) (hm : mapKK P t = some (kk, z)) (hx : trX x = some ax) (hk : trX i = some ai) (hy : trX y = some ay)
    (hd : o.dst = none) (hK : kMput kk (ev s.env ax) (ev s.env ai) (ev s.env ay) s K) : o.wp P a w (Gd O F0 w0 K) Q := by
  have h1 := trX_ok hx hi
  have h2 := trX_ok hk hi
  have h3 := trX_ok hy hi
  obtain ⟨k, e, hu, hkk, hz⟩ := mapKK_ok hm
  cases hdx : ev s.env ax <;> rw [hdx] at hK h1 <;> first | exact hK.elim | skip
  rename_i j
  simp only [kMput] at hK
  cases hg : mget s.mem j with
  | none => rw [hg] at hK; exact hK.elim
  | some blk =>
    rw [hg] at hK
    cases blk with
    | box cs => exact hK.elim
    | vec e' s' xs => exact hK.elim
    | mp kk' es =>
      obtain ⟨rfl, hkey, hfz, hcell, hK⟩ := hK
      obtain ⟨r, arr, clk, e1, hM, hN, hF, hheap, hall⟩ := hi.mapAt hg h1
      have h2' : RF F w (ev s.env ai) (a.eval i) := by
        have hf : isFz (ev s.env ai) = true := by
          cases kk' <;> cases hq : ev s.env ai <;> rw [hq] at hkey <;> first | rfl | (simp [isKey, isPl] at hkey)
        exact (RV_fz hf).1 h2
      have hone := (cellOK_one hcell h3).1
      have h3' : RF F w (ev s.env ay) (a.eval y) := (RV_fz hfz).1 h3
      obtain ⟨hc, res, hf, hfound⟩ := find_ok hkk hkey h2' hall w
      have hobj := MapKept.run_getObj_map (P := P) hheap
      rcases hfound with ⟨rfl, hno⟩ | ⟨l1, p, l2, en, rfl, hl1, hp, harr, rfl⟩
      · rw [mpPut_none hno] at hK
        refine sound_mset hi hg hM hheap (arr' := arr.push { key := a.eval i, val := a.eval y, born := clk }) (clk' := clk + 1) ?_ ⟨undef, .inr rfl⟩ ?_ hd hK
        · rw [Array.toList_push]
          exact hall.append (All2.cons ⟨hkey, h2', h3', hone⟩ All2.nil)
        · unfold execOp
          rw [ho]
          refine run_u ?_
          rw [e1]
          simp [Instr.mapUpdate, run_underlying hu, hobj, hc, hf, MapKept.run_setObj_map _ hheap, Result.andThen]
      · rw [mpPut_some hp hl1] at hK
        obtain ⟨b1, b, b2, harr2, hlen, g1, g2, g3⟩ := All2.splitAt hall
        have hb : b = en := by
          rw [harr2, ← hlen] at harr
          simpa using harr
        subst hb
        have harr' : arr[l1.length]? = some b := by simpa using harr
        have hstay := stays_ok hkk hkey g2.1 h2' g2.2.1 hp w (P := P)
        refine sound_mset hi hg hM hheap (arr' := arr.modify l1.length fun e => { e with key := a.eval i, val := a.eval y }) (clk' := clk) ?_ ⟨undef, .inr rfl⟩ ?_ hd hK
        · have : (arr.modify l1.length fun e => { e with key := a.eval i, val := a.eval y }).toList = b1 ++ { b with key := a.eval i, val := a.eval y } :: b2 := by
            rw [Array.toList_modify, harr2, ← hlen]
            exact modify_mid _ _ _ _
          rw [this]
          exact g1.append (All2.cons ⟨hkey, h2', h3', hone⟩ g3)
        · unfold execOp
          rw [ho]
          refine run_u ?_
          rw [e1]
          simp [Instr.mapUpdate, run_underlying hu, hobj, hc, hf, MapKept.run_setObj_map _ hheap, Result.andThen, harr', hstay]

theorem sound_mrm (hi : Inv O F0 w0 M F s.env s.mem a w) {t t2 : TypeId} {x i : Operand} {ax ai : AX} {kk : KK} {z : DV} (ho : o.op = .call { callee := .builtin .delete, args := #[x, i], argTypes := #[t, t2] }) (hm : mapKK P t = some (kk, z)) (hx : trX x = some ax) (hk : trX i = some ai)
    (hd : o.dst = none) (hK : kMrm kk (ev s.env ax) (ev s.env ai) s K) : o.wp P a w (Gd O F0 w0 K) Q := by
  have h1 := trX_ok hx hi
  have h2 := trX_ok hk hi
  obtain ⟨k, e, hu, hkk, hz⟩ := mapKK_ok hm
  cases hdx : ev s.env ax <;> rw [hdx] at hK h1 <;> first | exact hK.elim | skip
  rename_i j
  simp only [kMrm] at hK
  cases hg : mget s.mem j with
  | none => rw [hg] at hK; exact hK.elim
  | some blk =>
    rw [hg] at hK
    cases blk with
    | box cs => exact hK.elim
    | vec e' s' xs => exact hK.elim
    | mp kk' es =>
      obtain ⟨rfl, hkey, hK⟩ := hK
      obtain ⟨r, arr, clk, e1, hM, hN, hF, hheap, hall⟩ := hi.mapAt hg h1
      have h2' : RF F w (ev s.env ai) (a.eval i) := by
        have hf : isFz (ev s.env ai) = true := by
          cases kk' <;> cases hq : ev s.env ai <;> rw [hq] at hkey <;> first | rfl | (simp [isKey, isPl] at hkey)
        exact (RV_fz hf).1 h2
      obtain ⟨hc, res, hf, hfound⟩ := find_ok hkk hkey h2' hall w
      have hobj := MapKept.run_getObj_map (P := P) hheap
      rcases hfound with ⟨rfl, hno⟩ | ⟨l1, p, l2, en, rfl, hl1, hp, harr, rfl⟩
      · rw [mpRem_none hno] at hK
        refine sound_mset hi hg hM hheap (arr' := arr) (clk' := clk) hall ⟨.tuple #[], .inl rfl⟩ ?_ hd hK
        refine run_builtin ho ?_
        simp [Builtin.delete_, builtin, e1, run_underlying hu, hobj, hc, hf, MapKept.run_setObj_map _ hheap, Result.andThen]
      · rw [mpRem_some hp hl1] at hK
        obtain ⟨b1, b, b2, harr2, hlen, g1, g2, g3⟩ := All2.splitAt hall
        refine sound_mset hi hg hM hheap (arr' := arr.eraseIdxIfInBounds l1.length) (clk' := clk) ?_ ⟨.tuple #[], .inl rfl⟩ ?_ hd hK
        · have : (arr.eraseIdxIfInBounds l1.length).toList = b1 ++ b2 := by
            rw [Array.toList_eraseIdxIfInBounds, harr2, ← hlen]
            simp [List.eraseIdx_append_of_length_le]
          rw [this]
          exact g1.append g3
        · refine run_builtin ho ?_
          simp [Builtin.delete_, builtin, e1, run_underlying hu, hobj, hc, hf, MapKept.run_setObj_map _ hheap, Result.andThen]
end
end Go.Proofs.Ytfcjmblhcakhaaa.E
