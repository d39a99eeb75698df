/-
  The engine, part N: calls.
-/
import Derived.Test.YtcjlkbffmggekaaEngM
import Derived.Orders
set_option linter.unusedVariables false
set_option linter.unusedSimpArgs false
set_option linter.unusedSimpArgs false
namespace Go.Proofs.Ytcjlkbffmggekaa.E
open Go

section
variable {P : Program} {O : Nat → Prop} {F0 : Frz} {w0 : World} {M : Hnd} {F F' : Frz} {a : Act} {w w' : World} {s : DS} {K : DS → Prop} {Q : Exit → Act → World → Prop} {o : Oper}

theorem frzK_ok (hi : Inv O F0 w0 M F s.env s.mem a w) {k : Nat} {KK : DS → Prop} (h : frzK k s KK) : ∃ s' F', Inv O F0 w0 M F' s'.env s'.mem a w ∧ Keeps F w F' w ∧ KK s' := by
  unfold frzK at h
  cases hm : mget s.mem k with
  | none => rw [hm] at h; exact h.elim
  | some blk =>
    rw [hm] at h
    obtain ⟨h1, h2⟩ := h
    obtain ⟨F', h3, h4⟩ := hi.fz hm h1
    exact ⟨⟨s.env.map (fze k blk), mmap (fzb k blk) (mdel k s.mem)⟩, F', h3, h4, h2⟩
theorem frzArgs_ok {xs : List AX} : ∀ {n : Nat} {s : DS} {F : Frz} {KK : DS → Prop}, Inv O F0 w0 M F s.env s.mem a w → frzArgs xs n s KK → ∃ s' F', Inv O F0 w0 M F' s'.env s'.mem a w ∧ Keeps F w F' w ∧ KK s'
  | 0, s, F, KK, hi, h => h.elim
  | n + 1, s, F, KK, hi, h => by
      simp only [frzArgs] at h
      cases hh : hdlVs (evs s.env xs) with
      | none => rw [hh] at h; exact ⟨s, F, hi, Keeps.refl F w, h⟩
      | some k =>
        rw [hh] at h
        obtain ⟨s', F', h1, h3, h2⟩ := frzK_ok hi (show frzK k s _ from h)
        obtain ⟨s'', F'', g1, g2, g3⟩ := frzArgs_ok h1 h2
        exact ⟨s'', F'', g1, h3.trans g2, g3⟩

theorem BlkOK.move2 {N : Nat → Prop} {k : Nat} {blk : Blk} (h : BlkOK M F w N k blk) (hk : Keeps F w F' w') (hb : ∀ v b, M k = some v → hblk v = some b → w'.heap[b]? = w.heap[b]? ∧ ∀ o, ¬ F' b o) : BlkOK M F' w' N k blk := by
  cases blk with
  | box cells =>
    obtain ⟨b, arr, t, h1, h2, h3, h4, h5, h6⟩ := h
    exact ⟨b, arr, t, h1, h2, by rw [(hb _ b h1 rfl).1]; exact h3, h4, h5.mono fun _ _ => RVc.mono hk, (hb _ b h1 rfl).2⟩
  | vec e sz xs =>
    obtain ⟨v, h1, hs, h2⟩ := h
    refine ⟨v, h1, hs, ?_⟩
    rcases h2 with h2 | ⟨g, cap, cur, rfl, hc, h3, h4, h5, h6, h7, h8, h9, h10⟩
    · exact .inl h2
    · have := hb _ g h1 (by simp only [hblk, if_neg (Nat.pos_iff_ne_zero.1 hc)])
      exact .inr ⟨g, cap, cur, rfl, hc, h3, this.2, by rw [this.1]; exact h5, h6, h7, h8, h9, h10.mono fun _ _ => RF.mono hk _ _⟩
  | mp kk es =>
    obtain ⟨v, h1, r, arr, clk, e1, h2, h3, h4, h5⟩ := h
    have := hb _ r h1 (by rw [e1]; rfl)
    exact ⟨v, h1, r, arr, clk, e1, h2, this.2, by rw [this.1]; exact h4, h5.1.mono fun _ _ => EntOK.mono hk, h5.2⟩
theorem Inv.after {env : List DV} {mem : Mem} (hi : Inv O F0 w0 M F env mem a w) {X : Nat → Prop} (hg : Grow X F w F' w') (hXF : ∀ b o, X b → ¬ F b o) (hXM : ∀ k blk v b, mget mem k = some blk → M k = some v → hblk v = some b → ¬ X b) (hXN : ∀ b, X b → Nw O w0 b) :
    Inv O F0 w0 M F' env mem a w' := by
  have hk : Keeps F w F' w' := ⟨hg.sub, fun b o hb => cell_of_block (hg.block b (hi.grow.fwf b o hb) fun hx => hXF b o hx hb) o⟩
  refine ⟨hi.dl, hi.ev.mono fun _ _ => RV.mono hk, fun k blk hm => ?_, hi.dis, ⟨fun b o h => hg.sub b o (hi.grow.sub b o h), fun b o h => ?_, hg.fwf, Nat.le_trans hi.grow.size hg.size, fun b hb hO => ?_, hg.os.trans hi.grow.os, hg.tape.trans hi.grow.tape, hg.output.trans hi.grow.output⟩⟩
  · have hb := hi.mm k blk hm
    refine hb.move2 hk fun v b hv hvb => ?_
    have h1 := hb.block hv hvb
    have h2 := hXM k blk v b hm hv hvb
    refine ⟨hg.block b h1.2.2 h2, fun o hf => ?_⟩
    rcases hg.new b o hf with h3 | h3 | h3
    · exact h1.2.1 o h3
    · have := h1.2.2; omega
    · exact h2 h3
  · rcases hg.new b o h with h1 | h1 | h1
    · exact hi.grow.new b o h1
    · exact .inr (.inl (Nat.le_trans hi.grow.size h1))
    · exact .inr (hXN b h1)
  · have hnx : ¬ X b := fun hx => by
      rcases hXN b hx with h1 | h1
      · omega
      · exact hO h1
    exact (hg.block b (Nat.lt_of_lt_of_le hb hi.grow.size) hnx).trans (hi.grow.block b hb hO)
theorem VecOK.weakN {N N' : Nat → Prop} (h : ∀ b, N b → N' b) {e sz : Nat} {xs : List (List DV)} {v : Value} (hv : VecOK F w N e sz xs v) : VecOK F w N' e sz xs v := by
  obtain ⟨hs, h2⟩ := hv
  refine ⟨hs, ?_⟩
  rcases h2 with h2 | ⟨g, cap, cur, rfl, hc, h3, r⟩
  · exact .inl h2
  · exact .inr ⟨g, cap, cur, rfl, hc, h _ h3, r⟩
theorem VecOK.block {N : Nat → Prop} {e sz : Nat} {xs : List (List DV)} {v : Value} (hv : VecOK F w N e sz xs v) {b : Nat} (hb : hblk v = some b) : N b ∧ ∀ o, ¬ F b o := by
  rcases hv.2 with ⟨_, A, rfl⟩ | ⟨g, cap, cur, rfl, hc, h3, h4, _⟩
  · cases A <;> simp [hblk] at hb
  · simp only [hblk, if_neg (Nat.pos_iff_ne_zero.1 hc), Option.some.injEq] at hb
    subst hb
    exact ⟨h3, h4⟩

theorem mget_mdels : ∀ (ks : List Nat) (m : Mem) (j : Nat) (b : Blk), mget (mdels ks m) j = some b → ks.contains j = false ∧ mget m j = some b
  | [], m, j, b, h => ⟨rfl, h⟩
  | k :: ks, m, j, b, h => by
    simp only [mdels, mget_mdel] at h
    split at h
    · cases h
    · rename_i hne
      obtain ⟨h1, h2⟩ := mget_mdels ks m j b h
      refine ⟨?_, h2⟩
      simp only [List.contains_cons, h1, Bool.or_false]
      simpa using hne
theorem Inv.mdels {mem : Mem} {env : List DV} (hi : Inv O F0 w0 M F env mem a w) : ∀ ks : List Nat, Inv O F0 w0 M F env (E.mdels ks mem) a w
  | [] => hi
  | k :: ks => (Inv.mdels hi ks).mdel k
/-- arguments, some of them given away: what is handed over -/
theorem KArgs_ok {mem : Mem} {ds : List DV} {as : List RK} {ks : List Nat} (h : KArgs mem ds as ks) {env : List DV} (hi : Inv O F0 w0 M F env mem a w) : ∀ {vs : List Value}, All2 (RV M F w) ds vs →
    All2 (ArgOK F w) as vs ∧ (∀ (i : Nat) e sz xs v, as[i]? = some (.own e sz xs) → vs[i]? = some v → ∃ j, ks.contains j = true ∧ mget mem j = some (.vec e sz xs) ∧ M j = some v) ∧
    (∀ (i j : Nat) e sz xs e' sz' xs' v v' b, as[i]? = some (.own e sz xs) → as[j]? = some (.own e' sz' xs') → vs[i]? = some v → vs[j]? = some v' → hblk v = some b → hblk v' = some b → i = j) := by
  induction h with
  | nil => intro vs hv; rw [All2] at hv; subst hv; exact ⟨All2.nil, by simp, by simp⟩
  | fz hd r ih =>
    intro vs hv
    rw [All2] at hv
    obtain ⟨v, vs', rfl, h1, h2⟩ := hv
    obtain ⟨g1, g2, g3⟩ := ih h2
    refine ⟨All2.cons ((RV_fz hd).1 h1) g1, ?_, ?_⟩
    · intro i e sz xs v' e1 e2
      cases i with
      | zero => simp at e1
      | succ i => exact g2 i e sz xs v' (by simpa using e1) (by simpa using e2)
    · intro i j e sz xs e' sz' xs' v1 v2 b e1 e2 e3 e4 e5 e6
      cases i with
      | zero => simp at e1
      | succ i =>
        cases j with
        | zero => simp at e2
        | succ j => rw [g3 i j e sz xs e' sz' xs' v1 v2 b (by simpa using e1) (by simpa using e2) (by simpa using e3) (by simpa using e4) e5 e6]
  | own hm hn r ih =>
    rename_i k e0 sz0 xs0 ds as ks
    intro vs hv
    rw [All2] at hv
    obtain ⟨v, vs', rfl, h1, h2⟩ := hv
    obtain ⟨g1, g2, g3⟩ := ih h2
    have hMk : M k = some v := (show RVc M F w (.ow k) _ from h1).1
    have apart : ∀ (i : Nat) e sz xs v' b, as[i]? = some (.own e sz xs) → vs'[i]? = some v' → hblk v = some b → hblk v' = some b → False := by
      intro i e sz xs v' b e1 e2 e3 e4
      obtain ⟨j, q1, q2, q3⟩ := g2 i e sz xs v' e1 e2
      have := hi.dis k j _ _ v v' b hm q2 hMk q3 e3 e4
      rw [← this, hn] at q1
      cases q1
    refine ⟨All2.cons ((hi.vec hm h1).weakN fun _ _ => trivial) g1, ?_, ?_⟩
    · intro i e sz xs v' e1 e2
      cases i with
      | zero => simp at e1 e2; obtain ⟨rfl, rfl, rfl⟩ := e1; subst e2; exact ⟨k, by simp, hm, hMk⟩
      | succ i =>
        obtain ⟨j, q1, q2, q3⟩ := g2 i e sz xs v' (by simpa using e1) (by simpa using e2)
        exact ⟨j, by simp only [List.contains_cons, q1, Bool.or_true], q2, q3⟩
    · intro i j e sz xs e' sz' xs' v1 v2 b e1 e2 e3 e4 e5 e6
      cases i with
      | zero =>
        cases j with
        | zero => rfl
        | succ j =>
          simp at e3
          subst e3
          exact (apart j e' sz' xs' v2 b (by simpa using e2) (by simpa using e4) e5 e6).elim
      | succ i =>
        cases j with
        | zero =>
          simp at e4
          subst e4
          exact (apart i e sz xs v1 b (by simpa using e1) (by simpa using e3) e6 e5).elim
        | succ j => rw [g3 i j e sz xs e' sz' xs' v1 v2 b (by simpa using e1) (by simpa using e2) (by simpa using e3) (by simpa using e4) e5 e6]

/-- a call by a contract -/
theorem call_ok {mem' : Mem} {env : List DV} (hi : Inv O F0 w0 M F env mem' a w) {f : Nat} {as : List RK} {r : RK} {vs : Array Value} (hsp : Spec P f as r) (hargs : All2 (ArgOK F w) as vs.toList)
    (hdis : ∀ (i j : Nat) e sz xs e' sz' xs' v v' b, as[i]? = some (.own e sz xs) → as[j]? = some (.own e' sz' xs') → vs.toList[i]? = some v → vs.toList[j]? = some v' → hblk v = some b → hblk v' = some b → i = j)
    (hXF : ∀ b o, ownB as vs.toList b → ¬ F b o) (hXM : ∀ k blk v b, mget mem' k = some blk → M k = some v → hblk v = some b → ¬ ownB as vs.toList b) (hXN : ∀ b, ownB as vs.toList b → Nw O w0 b)
    {dst : Option Nat} (hK : (∃ d, r = .fz d ∧ kPut dst ⟨env, mem'⟩ K d) ∨ (∃ e sz xs t, r = .own e sz xs ∧ dst = some t ∧ kBind dst ⟨env, mem'⟩ K (.ow t) (.vec e sz xs)) ∨ (∃ kk es t, r = .ownm kk es ∧ dst = some t ∧ kBind dst ⟨env, mem'⟩ K (.ow t) (.mp kk es))) :
    Calls P f vs w fun
      | .returned v, w'' => Gd O F0 w0 K (a.put dst v) w'' ∧ ((∀ b, ¬ ownB as vs.toList b) → Ext w w'')
      | .panicked chain, w'' => Q (.panic chain) a w''
      | .outgrown, _ => LetsOut Q := by
  refine (hsp.2 F w vs hi.grow.fwf hargs fun i j e sz xs e' sz' xs' v v' b h1 h2 h3 h4 h5 h6 => hdis i j e sz xs e' sz' xs' v v' b h1 h2 (by simpa using h3) (by simpa using h4) h5 h6).mono ?_
  rintro e w'' ⟨v, F', rfl, hg, hres⟩
  have hia := hi.after hg hXF hXM hXN
  show Gd O F0 w0 K (a.put dst v) w'' ∧ _
  refine ⟨?_, fun hno b hb => hg.block b hb (hno b)⟩
  rcases hK with ⟨d, rfl, hk⟩ | ⟨e, sz, xs, t, rfl, rfl, hk⟩ | ⟨kk, es, t, rfl, rfl, hk⟩
  · exact put_ok hia (RV_of_RF hres) hk
  · have hv : VecOK F' w'' (Nw (ownB as vs.toList) w) e sz xs v := hres
    have hv' : VecOK F' w'' (Nw O w0) e sz xs v := hv.weakN fun b hb => by
      rcases hb with h1 | h1
      · exact .inl (Nat.le_trans hi.grow.size h1)
      · exact hXN b h1
    refine ⟨_, _, F', (hia.bind t v (.vec e sz xs) ⟨v, by simp [upd], hv'⟩ ?_).put t ?_, hk⟩
    · intro j blk v' b _ g1 g2 g3 g4
      have h1 := (hi.mm j blk g1).block g2 g3
      rcases (hv.block g4).1 with h2 | h2
      · have := h1.2.2; omega
      · exact hXM j blk v' b g1 g2 g3 h2
    · obtain ⟨A, cap, e3, _⟩ := hv.slice
      rw [e3]
      exact mk_ow (by simp [upd])
  · have hv : MapOK F' w'' (Nw (ownB as vs.toList) w) kk es v := hres
    obtain ⟨r, arr, clk, e1, hN, hF, hh, hall⟩ := hv
    subst e1
    have hN' : Nw O w0 r := by
      rcases hN with h1 | h1
      · exact .inl (Nat.le_trans hi.grow.size h1)
      · exact hXN r h1
    refine ⟨_, _, F', (hia.bind t (.map (some r)) (.mp kk es) ⟨_, by simp [upd], r, arr, clk, rfl, hN', hF, hh, hall⟩ ?_).put t ?_, hk⟩
    · intro j blk v' b _ g1 g2 g3 g4
      simp only [hblk, Option.some.injEq] at g4
      subst g4
      have h1 := (hi.mm j blk g1).block g2 g3
      rcases hN with h2 | h2
      · have := h1.2.2; omega
      · exact hXM j blk v' r g1 g2 g3 h2
    · exact mk_owm (by simp [upd])

theorem all_fz {ds : List DV} {vs : List Value} (h : ds.all isFz = true) (hv : All2 (RV M F w) ds vs) : All2 (ArgOK F w) (ds.map .fz) vs := by
  have key : ∀ d ∈ ds, isFz d = true := by simpa using h
  refine All2.of_get (by rw [hv.length]; simp) fun i r v h1 h2 => ?_
  rw [List.getElem?_map] at h1
  cases hd : ds[i]? with
  | none => simp [hd] at h1
  | some d =>
    simp [hd] at h1
    subst h1
    obtain ⟨v', e, r⟩ := hv.get i d hd
    rw [h2] at e; cases e
    exact (RV_fz (key d (List.mem_of_getElem? hd))).1 r
theorem own_none {ds : List DV} {vs : List Value} {b : Nat} : ¬ ownB (ds.map .fz) vs b := by
  rintro ⟨i, e, sz, xs, v, h1, _⟩
  rw [List.getElem?_map] at h1
  cases hd : ds[i]? <;> simp [hd] at h1
theorem kSpec_ok (hi : Inv O F0 w0 M F s.env s.mem a w) {f : Nat} {ds : List DV} {vs : Array Value} {dst : Option Nat} (hv : All2 (RV M F w) ds vs.toList) (hK : kSpec P f ds dst s K) :
    Calls P f vs w fun
      | .returned v, w'' => GdE w O F0 w0 K (a.put dst v) w''
      | .panicked chain, w'' => Q (.panic chain) a w''
      | .outgrown, _ => LetsOut Q := by
  obtain ⟨hfz, hK⟩ := hK
  have hno : ∀ (i j : Nat) e sz xs e' sz' xs' v v' b, (ds.map RK.fz)[i]? = some (.own e sz xs) → (ds.map RK.fz)[j]? = some (.own e' sz' xs') → vs.toList[i]? = some v → vs.toList[j]? = some v' → hblk v = some b → hblk v' = some b → i = j := by
    intro i j e sz xs e' sz' xs' _ _ _ h1
    rw [List.getElem?_map] at h1
    cases hd : ds[i]? <;> simp [hd] at h1
  rcases hK with ⟨d, h1, h2⟩ | ⟨e, sz, xs, t, rfl, h1, h2⟩ | ⟨kk, es, t, rfl, h1, h2⟩
  · exact (call_ok (Q := Q) hi h1 (all_fz hfz hv) hno (fun _ _ h => absurd h own_none) (fun _ _ _ _ _ _ _ => own_none) (fun _ h => absurd h own_none) (.inl ⟨d, rfl, h2⟩)).mono fun e w'' he => by cases e <;> first | exact ⟨he.1, he.2 fun _ => own_none⟩ | exact he
  · exact (call_ok (Q := Q) hi h1 (all_fz hfz hv) hno (fun _ _ h => absurd h own_none) (fun _ _ _ _ _ _ _ => own_none) (fun _ h => absurd h own_none) (.inr (.inl ⟨e, sz, xs, t, rfl, rfl, h2⟩))).mono fun e w'' he => by cases e <;> first | exact ⟨he.1, he.2 fun _ => own_none⟩ | exact he
  · exact (call_ok (Q := Q) hi h1 (all_fz hfz hv) hno (fun _ _ h => absurd h own_none) (fun _ _ _ _ _ _ _ => own_none) (fun _ h => absurd h own_none) (.inr (.inr ⟨kk, es, t, rfl, rfl, h2⟩))).mono fun e w'' he => by cases e <;> first | exact ⟨he.1, he.2 fun _ => own_none⟩ | exact he
theorem kSpecO_ok (hi : Inv O F0 w0 M F s.env s.mem a w) {f : Nat} {ds : List DV} {vs : Array Value} {dst : Option Nat} (hv : All2 (RV M F w) ds vs.toList) (hK : kSpecO P f ds dst s K) :
    Calls P f vs w fun
      | .returned v, w'' => Gd O F0 w0 K (a.put dst v) w''
      | .panicked chain, w'' => Q (.panic chain) a w''
      | .outgrown, _ => LetsOut Q := by
  obtain ⟨as, k, hka, hK⟩ := hK
  obtain ⟨g1, g2, g3⟩ := KArgs_ok hka hi hv
  have hX : ∀ b, ownB as vs.toList b → ∃ j blk v, k.contains j = true ∧ mget s.mem j = some blk ∧ M j = some v ∧ hblk v = some b := by
    rintro b ⟨i, e, sz, xs, v, h1, h2, h3⟩
    obtain ⟨j, q1, q2, q3⟩ := g2 i e sz xs v h1 h2
    exact ⟨j, _, v, q1, q2, q3, h3⟩
  have hi' : Inv O F0 w0 M F s.env (mdels k s.mem) a w := hi.mdels k
  have hXF : ∀ b o, ownB as vs.toList b → ¬ F b o := fun b o hb => by
    obtain ⟨j, blk, v, _, q2, q3, q4⟩ := hX b hb
    exact ((hi.mm j blk q2).block q3 q4).2.1 o
  have hXN : ∀ b, ownB as vs.toList b → Nw O w0 b := fun b hb => by
    obtain ⟨j, blk, v, _, q2, q3, q4⟩ := hX b hb
    exact ((hi.mm j blk q2).block q3 q4).1
  have hXM : ∀ i blk v b, mget (mdels k s.mem) i = some blk → M i = some v → hblk v = some b → ¬ ownB as vs.toList b := fun i blk v b h1 h2 h3 hb => by
    obtain ⟨j, blk', v', q1, q2, q3, q4⟩ := hX b hb
    obtain ⟨h4, h5⟩ := mget_mdels k s.mem i blk h1
    have := hi.dis i j blk blk' v v' b h5 q2 h2 q3 h3 q4
    rw [this, q1] at h4
    cases h4
  rcases hK with ⟨d, h1, h2⟩ | ⟨e, sz, xs, t, rfl, h1, h2⟩
  · exact (call_ok (Q := Q) hi' h1 g1 g3 hXF hXM hXN (.inl ⟨d, rfl, h2⟩)).mono fun e w'' he => by cases e <;> first | exact he.1 | exact he
  · exact (call_ok (Q := Q) hi' h1 g1 g3 hXF hXM hXN (.inr (.inl ⟨e, sz, xs, t, rfl, rfl, h2⟩))).mono fun e w'' he => by cases e <;> first | exact he.1 | exact he

theorem run_callFunc {f : Nat} (h : callable P f = true) (args : Array Value) : (callFunc f args).run P w = .ok (.enter f args) w := by
  unfold callable at h
  split at h
  · rename_i fn hf
    simp only [Bool.and_eq_true, Bool.not_eq_true'] at h
    have h2 : ¬ fn.name = "runtime.NumGoroutine" := by simpa using h.2
    simp [callFunc, hf, h2, Option.isNone_iff_eq_none, Option.isSome_iff_ne_none.1 h.1]
  · cases h
theorem spec_callable {f : Nat} {ds : List DV} {dst : Option Nat} (h : kSpec P f ds dst s K) : callable P f = true := by
  rcases h.2 with ⟨d, h1, _⟩ | ⟨e, sz, xs, t, _, h1, _⟩ | ⟨kk, es, t, _, h1, _⟩ <;> exact h1.1
theorem specO_callable {f : Nat} {ds : List DV} {dst : Option Nat} (h : kSpecO P f ds dst s K) : callable P f = true := by
  obtain ⟨as, k, _, h⟩ := h
  rcases h with ⟨d, h1, _⟩ | ⟨e, sz, xs, t, _, h1, _⟩ <;> exact h1.1
theorem run_call {xs : Array Operand} {ts : Array TypeId} {x : Operand} {f : Nat} {cap : Array Value} (ho : o.op = .call { callee := .value x, args := xs, argTypes := ts }) (hx : a.eval x = .func (.func f) #[] cap) (hc : callable P f = true) :
    (execOp a.eval o).run P w = .ok (.enter f (xs.map a.eval ++ cap)) w := by
  unfold execOp
  rw [ho]
  simp only [resolve, hx, Deferred.ofValue, Sem.run_bind, Sem.run_pure, Result.andThen_ok, invoke, Array.empty_append]
  exact run_callFunc hc _
theorem sound_callE (hi : Inv O F0 w0 M F s.env s.mem a w) {xs : Array Operand} {ts : Array TypeId} {f : Nat} {as : List AX} (ho : o.op = .call { callee := .value (.func f), args := xs, argTypes := ts }) (hx : trXs xs.toList = some as)
    (hK : dRun P (.call false f as) s o.dst K) : o.wp P a w (GdE w O F0 w0 K) Q := by
  obtain ⟨s', F', hi', _, hk⟩ := frzArgs_ok hi (show frzArgs as fuelF s _ from hK)
  unfold Oper.wp
  rw [run_call ho rfl (spec_callable hk)]
  simp only [Array.append_empty]
  exact kSpec_ok hi' (by simpa using trXs_ok hx hi') hk
theorem sound_call (hi : Inv O F0 w0 M F s.env s.mem a w) {xs : Array Operand} {ts : Array TypeId} {f : Nat} {as : List AX} {ow : Bool} (ho : o.op = .call { callee := .value (.func f), args := xs, argTypes := ts }) (hx : trXs xs.toList = some as)
    (hK : dRun P (.call ow f as) s o.dst K) : o.wp P a w (Gd O F0 w0 K) Q := by
  cases ow with
  | false =>
    exact Oper.wp_mono (fun _ _ h => h.1) (sound_callE hi ho hx hK)
  | true =>
    have hk : kSpecO P f (evs s.env as) o.dst s K := hK
    unfold Oper.wp
    rw [run_call ho rfl (specO_callable hk)]
    simp only [Array.append_empty]
    exact kSpecO_ok hi (by simpa using trXs_ok hx hi) hk
theorem sound_callv (hi : Inv O F0 w0 M F s.env s.mem a w) {xs : Array Operand} {ts : Array TypeId} {x : Operand} {ax : AX} {as : List AX} (ho : o.op = .call { callee := .value x, args := xs, argTypes := ts }) (hx : trX x = some ax) (hxs : trXs xs.toList = some as)
    (hK : dRun P (.callv ax as) s o.dst K) : o.wp P a w (GdE w O F0 w0 K) Q := by
  have h1 := trX_ok hx hi
  have hK : kFn (ev s.env ax) fun f cap => frzArgs as fuelF s fun s' => kSpec P f (evs s'.env as ++ cap) o.dst s' K := hK
  cases hd1 : ev s.env ax <;> rw [hd1] at hK h1 <;> first | exact hK.elim | skip
  rename_i f cap
  have h1 : RF F w (.fn f cap) _ := h1
  rw [RF] at h1
  obtain ⟨arr, e, h2⟩ := h1
  obtain ⟨s', F', hi', hkp, hk⟩ := frzArgs_ok hi (show frzArgs as fuelF s _ from hK)
  unfold Oper.wp
  rw [run_call ho e (spec_callable hk)]
  refine kSpec_ok hi' ?_ hk
  have h3 := trXs_ok hxs hi'
  have h4 := (RFs_iff.1 (RFs.mono hkp _ _ h2)).mono fun _ _ => RV_of_RF (M := M)
  simpa using h3.append h4
theorem sound_mkfn (hi : Inv O F0 w0 M F s.env s.mem a w) {f : Nat} {first captured : Array Operand} {as : List AX} (ho : o.op = .makeFunc (.func f) first captured) (hf : first = #[]) (hx : trXs captured.toList = some as)
    (hK : dRun P (.mkfn f as) s o.dst K) : o.wp P a w (Gd O F0 w0 K) Q := by
  obtain ⟨s', F', hi', hkp, h1, h2⟩ := frzArgs_ok hi (show frzArgs as fuelF s _ from hK)
  subst hf
  refine wp_put (v := .func (.func f) #[] (captured.map a.eval)) ?_ hi' ?_ h2
  · unfold execOp
    rw [ho]
    exact run_v (by simp [Instr.makeFunc])
  · show RF F' w _ _
    rw [RF]
    refine ⟨_, rfl, RFs_iff.2 ?_⟩
    have h3 := trXs_ok hx hi'
    have key : ∀ d ∈ evs s'.env as, isFz d = true := by simpa using h1
    refine All2.of_get (by rw [← h3.length]; simp) fun i d v e1 e2 => ?_
    obtain ⟨v', e3, r⟩ := h3.get i d e1
    have e2' : (captured.toList.map a.eval)[i]? = some v := by simpa using e2
    rw [e2'] at e3; cases e3
    exact (RV_fz (key d (List.mem_of_getElem? e1))).1 r
end
end Go.Proofs.Ytcjlkbffmggekaa.E
