/-
  The engine, part N: calls.
-/
import Derived.Test.YtcolebkklojccaaGreatEngM
import Derived.Orders
import Derived.MapKept
import Derived.Laws.MakeOwn
set_option linter.unusedVariables false
set_option linter.unusedSimpArgs false
set_option linter.unusedSimpArgs false
namespace Go.Proofs.YtcolebkklojccaaGreat.E
open Go

section
variable {P : Program} {O : Nat → Prop} {F0 : Frz} {w0 : World} {M : Hnd} {F F' : Frz} {a : Act} {w w' : World} {s : DS} {K : DS → Prop} {Q : Exit → Act → World → Prop} {o : Oper}

theorem frzK_ok (hi : Inv O F0 w0 M F s.env s.mem a w) {k : Nat} {KK : DS → Prop} (h : frzK k s KK) : ∃ s' F', Inv O F0 w0 M F' s'.env s'.mem a w ∧ Keeps F w F' w ∧ KK s' := by
  unfold frzK at h
  cases hm : mget s.mem k with
  | none => rw [hm] at h; exact h.elim
  | some blk =>
    rw [hm] at h
    obtain ⟨h1, h2⟩ := h
    obtain ⟨F', h3, h4⟩ := hi.fz hm h1
    exact ⟨⟨s.env.map (fze k blk), mmap (fzb k blk) (mdel k s.mem)⟩, F', h3, h4, h2⟩
theorem frzArgs_ok {xs : List AX} : ∀ {n : Nat} {s : DS} {F : Frz} {KK : DS → Prop}, Inv O F0 w0 M F s.env s.mem a w → frzArgs xs n s KK → ∃ s' F', Inv O F0 w0 M F' s'.env s'.mem a w ∧ Keeps F w F' w ∧ KK s'
  | 0, s, F, KK, hi, h => h.elim
  | n + 1, s, F, KK, hi, h => by
      simp only [frzArgs] at h
      cases hh : hdlVs (evs s.env xs) with
      | none => rw [hh] at h; exact ⟨s, F, hi, Keeps.refl F w, h⟩
      | some k =>
        rw [hh] at h
        obtain ⟨s', F', h1, h3, h2⟩ := frzK_ok hi (show frzK k s _ from h)
        obtain ⟨s'', F'', g1, g2, g3⟩ := frzArgs_ok h1 h2
        exact ⟨s'', F'', g1, h3.trans g2, g3⟩

theorem BlkOK.move2 {N : Nat → Prop} {k : Nat} {blk : Blk} (h : BlkOK M F w N k blk) (hk : Keeps F w F' w') (hb : ∀ v b, M k = some v → hblk v = some b → w'.heap[b]? = w.heap[b]? ∧ ∀ o, ¬ F' b o) : BlkOK M F' w' N k blk := by
  cases blk with
  | box cells =>
    obtain ⟨b, arr, t, h1, h2, h3, h4, h5, h6⟩ := h
    exact ⟨b, arr, t, h1, h2, by rw [(hb _ b h1 rfl).1]; exact h3, h4, h5.mono fun _ _ => RVc.mono hk, (hb _ b h1 rfl).2⟩
  | vec e sz xs =>
    obtain ⟨v, h1, hs, h2⟩ := h
    refine ⟨v, h1, hs, ?_⟩
    rcases h2 with h2 | ⟨g, cap, cur, rfl, hc, h3, h4, h5, h6, h7, h8, h9, h10⟩
    · exact .inl h2
    · have := hb _ g h1 (by simp only [hblk, if_neg (Nat.pos_iff_ne_zero.1 hc)])
      exact .inr ⟨g, cap, cur, rfl, hc, h3, this.2, by rw [this.1]; exact h5, h6, h7, h8, h9, h10.mono fun _ _ => RF.mono hk _ _⟩
  | mp kk es =>
    obtain ⟨v, h1, r, arr, clk, e1, h2, h3, h4, h5⟩ := h
    have := hb _ r h1 (by rw [e1]; rfl)
    exact ⟨v, h1, r, arr, clk, e1, h2, this.2, by rw [this.1]; exact h4, h5.1.mono fun _ _ => EntOK.mono hk, h5.2⟩
theorem Inv.after {env : List DV} {mem : Mem} (hi : Inv O F0 w0 M F env mem a w) {X : Nat → Prop} (hg : Grow X F w F' w') (hXF : ∀ b o, X b → ¬ F b o) (hXM : ∀ k blk v b, mget mem k = some blk → M k = some v → hblk v = some b → ¬ X b) (hXN : ∀ b, X b → Nw O w0 b) :
    Inv O F0 w0 M F' env mem a w' := by
  have hk : Keeps F w F' w' := ⟨hg.sub, fun b o hb => cell_of_block (hg.block b (hi.grow.fwf b o hb) fun hx => hXF b o hx hb) o⟩
  refine ⟨hi.dl, hi.ev.mono fun _ _ => RV.mono hk, fun k blk hm => ?_, hi.dis, ⟨fun b o h => hg.sub b o (hi.grow.sub b o h), fun b o h => ?_, hg.fwf, Nat.le_trans hi.grow.size hg.size, fun b hb hO => ?_, hg.os.trans hi.grow.os, hg.tape.trans hi.grow.tape, hg.output.trans hi.grow.output⟩⟩
  · have hb := hi.mm k blk hm
    refine hb.move2 hk fun v b hv hvb => ?_
    have h1 := hb.block hv hvb
    have h2 := hXM k blk v b hm hv hvb
    refine ⟨hg.block b h1.2.2 h2, fun o hf => ?_⟩
    rcases hg.new b o hf with h3 | h3 | h3
    · exact h1.2.1 o h3
    · have := h1.2.2; omega
    · exact h2 h3
  · rcases hg.new b o h with h1 | h1 | h1
    · exact hi.grow.new b o h1
    · exact .inr (.inl (Nat.le_trans hi.grow.size h1))
    · exact .inr (hXN b h1)
  · have hnx : ¬ X b := fun hx => by
      rcases hXN b hx with h1 | h1
      · omega
      · exact hO h1
    exact (hg.block b (Nat.lt_of_lt_of_le hb hi.grow.size) hnx).trans (hi.grow.block b hb hO)
theorem VecOK.weakN {N N' : Nat → Prop} (h : ∀ b, N b → N' b) {e sz : Nat} {xs : List (List DV)} {v : Value} (hv : VecOK F w N e sz xs v) : VecOK F w N' e sz xs v := by
  obtain ⟨hs, h2⟩ := hv
  refine ⟨hs, ?_⟩
  rcases h2 with h2 | ⟨g, cap, cur, rfl, hc, h3, r⟩
  · exact .inl h2
  · exact .inr ⟨g, cap, cur, rfl, hc, h _ h3, r⟩
theorem VecOK.block {N : Nat → Prop} {e sz : Nat} {xs : List (List DV)} {v : Value} (hv : VecOK F w N e sz xs v) {b : Nat} (hb : hblk v = some b) : N b ∧ ∀ o, ¬ F b o := by
  rcases hv.2 with ⟨_, A, rfl⟩ | ⟨g, cap, cur, rfl, hc, h3, h4, _⟩
  · cases A <;> simp [hblk] at hb
  · simp only [hblk, if_neg (Nat.pos_iff_ne_zero.1 hc), Option.some.injEq] at hb
    subst hb
    exact ⟨h3, h4⟩

theorem mget_mdels : ∀ (ks : List Nat) (m : Mem) (j : Nat) (b : Blk), mget (mdels ks m) j = some b → ks.contains j = false ∧ mget m j = some b
  | [], m, j, b, h => ⟨rfl, h⟩
  | k :: ks, m, j, b, h => by
    simp only [mdels, mget_mdel] at h
    split at h
    · cases h
    · rename_i hne
      obtain ⟨h1, h2⟩ := mget_mdels ks m j b h
      refine ⟨?_, h2⟩
      simp only [List.contains_cons, h1, Bool.or_false]
      simpa using hne
theorem Inv.mdels {mem : Mem} {env : List DV} (hi : Inv O F0 w0 M F env mem a w) : ∀ ks : List Nat, Inv O F0 w0 M F env (E.mdels ks mem) a w
  | [] => hi
  | k :: ks => (Inv.mdels hi ks).mdel k
/-- arguments, some of them given away: what is handed over -/
theorem KArgs_ok {mem : Mem} {ds : List DV} {as : List RK} {ks : List Nat} (h : KArgs mem ds as ks) {env : List DV} (hi : Inv O F0 w0 M F env mem a w) : ∀ {vs : List Value}, All2 (RV M F w) ds vs →
    All2 (ArgOK F w) as vs ∧ (∀ (i : Nat) e sz xs v, as[i]? = some (.own e sz xs) → vs[i]? = some v → ∃ j, ks.contains j = true ∧ mget mem j = some (.vec e sz xs) ∧ M j = some v) ∧
    (∀ (i j : Nat) e sz xs e' sz' xs' v v' b, as[i]? = some (.own e sz xs) → as[j]? = some (.own e' sz' xs') → vs[i]? = some v → vs[j]? = some v' → hblk v = some b → hblk v' = some b → i = j) := by
  induction h with
  | nil => intro vs hv; rw [All2] at hv; subst hv; exact ⟨All2.nil, by simp, by simp⟩
  | fz hd r ih =>
    intro vs hv
    rw [All2] at hv
    obtain ⟨v, vs', rfl, h1, h2⟩ := hv
    obtain ⟨g1, g2, g3⟩ := ih h2
    refine ⟨All2.cons ((RV_fz hd).1 h1) g1, ?_, ?_⟩
    · intro i e sz xs v' e1 e2
      cases i with
      | zero => simp at e1
      | succ i => exact g2 i e sz xs v' (by simpa using e1) (by simpa using e2)
    · intro i j e sz xs e' sz' xs' v1 v2 b e1 e2 e3 e4 e5 e6
      cases i with
      | zero => simp at e1
      | succ i =>
        cases j with
        | zero => simp at e2
        | succ j => rw [g3 i j e sz xs e' sz' xs' v1 v2 b (by simpa using e1) (by simpa using e2) (by simpa using e3) (by simpa using e4) e5 e6]
  | own hm hn r ih =>
    rename_i k e0 sz0 xs0 ds as ks
    intro vs hv
    rw [All2] at hv
    obtain ⟨v, vs', rfl, h1, h2⟩ := hv
    obtain ⟨g1, g2, g3⟩ := ih h2
    have hMk : M k = some v := (show RVc M F w (.ow k) _ from h1).1
    have apart : ∀ (i : Nat) e sz xs v' b, as[i]? = some (.own e sz xs) → vs'[i]? = some v' → hblk v = some b → hblk v' = some b → False := by
      intro i e sz xs v' b e1 e2 e3 e4
      obtain ⟨j, q1, q2, q3⟩ := g2 i e sz xs v' e1 e2
      have := hi.dis k j _ _ v v' b hm q2 hMk q3 e3 e4
      rw [← this, hn] at q1
      cases q1
    refine ⟨All2.cons ((hi.vec hm h1).weakN fun _ _ => trivial) g1, ?_, ?_⟩
    · intro i e sz xs v' e1 e2
      cases i with
      | zero => simp at e1 e2; obtain ⟨rfl, rfl, rfl⟩ := e1; subst e2; exact ⟨k, by simp, hm, hMk⟩
      | succ i =>
        obtain ⟨j, q1, q2, q3⟩ := g2 i e sz xs v' (by simpa using e1) (by simpa using e2)
        exact ⟨j, by simp only [List.contains_cons, q1, Bool.or_true], q2, q3⟩
    · intro i j e sz xs e' sz' xs' v1 v2 b e1 e2 e3 e4 e5 e6
      cases i with
      | zero =>
        cases j with
        | zero => rfl
        | succ j =>
          simp at e3
          subst e3
          exact (apart j e' sz' xs' v2 b (by simpa using e2) (by simpa using e4) e5 e6).elim
      | succ i =>
        cases j with
        | zero =>
          simp at e4
          subst e4
          exact (apart i e sz xs v1 b (by simpa using e1) (by simpa using e3) e6 e5).elim
        | succ j => rw [g3 i j e sz xs e' sz' xs' v1 v2 b (by simpa using e1) (by simpa using e2) (by simpa using e3) (by simpa using e4) e5 e6]

/-- a call by a contract -/
theorem call_ok {mem' : Mem} {env : List DV} (hi : Inv O F0 w0 M F env mem' a w) {f : Nat} {as : List RK} {r : RK} {vs : Array Value} (hsp : Spec P f as r) (hargs : All2 (ArgOK F w) as vs.toList)
    (hdis : ∀ (i j : Nat) e sz xs e' sz' xs' v v' b, as[i]? = some (.own e sz xs) → as[j]? = some (.own e' sz' xs') → vs.toList[i]? = some v → vs.toList[j]? = some v' → hblk v = some b → hblk v' = some b → i = j)
    (hXF : ∀ b o, ownB as vs.toList b → ¬ F b o) (hXM : ∀ k blk v b, mget mem' k = some blk → M k = some v → hblk v = some b → ¬ ownB as vs.toList b) (hXN : ∀ b, ownB as vs.toList b → Nw O w0 b)
    {dst : Option Nat} (hK : (∃ d, r = .fz d ∧ kPut dst ⟨env, mem'⟩ K d) ∨ (∃ e sz xs t, r = .own e sz xs ∧ dst = some t ∧ kBind dst ⟨env, mem'⟩ K (.ow t) (.vec e sz xs)) ∨ (∃ kk es t, r = .ownm kk es ∧ dst = some t ∧ kBind dst ⟨env, mem'⟩ K (.ow t) (.mp kk es))) :
    Calls P f vs w fun
      | .returned v, w'' => Gd O F0 w0 K (a.put dst v) w'' ∧ ((∀ b, ¬ ownB as vs.toList b) → Ext w w'')
      | .panicked chain, w'' => Q (.panic chain) a w''
      | .outgrown, _ => LetsOut Q := by
  refine (hsp.2 F w vs hi.grow.fwf hargs fun i j e sz xs e' sz' xs' v v' b h1 h2 h3 h4 h5 h6 => hdis i j e sz xs e' sz' xs' v v' b h1 h2 (by simpa using h3) (by simpa using h4) h5 h6).mono ?_
  rintro e w'' ⟨v, F', rfl, hg, hres⟩
  have hia := hi.after hg hXF hXM hXN
  show Gd O F0 w0 K (a.put dst v) w'' ∧ _
  refine ⟨?_, fun hno b hb => hg.block b hb (hno b)⟩
  rcases hK with ⟨d, rfl, hk⟩ | ⟨e, sz, xs, t, rfl, rfl, hk⟩ | ⟨kk, es, t, rfl, rfl, hk⟩
  · exact put_ok hia (RV_of_RF hres) hk
  · have hv : VecOK F' w'' (Nw (ownB as vs.toList) w) e sz xs v := hres
    have hv' : VecOK F' w'' (Nw O w0) e sz xs v := hv.weakN fun b hb => by
      rcases hb with h1 | h1
      · exact .inl (Nat.le_trans hi.grow.size h1)
      · exact hXN b h1
    refine ⟨_, _, F', (hia.bind t v (.vec e sz xs) ⟨v, by simp [upd], hv'⟩ ?_).put t ?_, hk⟩
    · intro j blk v' b _ g1 g2 g3 g4
      have h1 := (hi.mm j blk g1).block g2 g3
      rcases (hv.block g4).1 with h2 | h2
      · have := h1.2.2; omega
      · exact hXM j blk v' b g1 g2 g3 h2
    · obtain ⟨A, cap, e3, _⟩ := hv.slice
      rw [e3]
      exact mk_ow (by simp [upd])
  · have hv : MapOK F' w'' (Nw (ownB as vs.toList) w) kk es v := hres
    obtain ⟨r, arr, clk, e1, hN, hF, hh, hall⟩ := hv
    subst e1
    have hN' : Nw O w0 r := by
      rcases hN with h1 | h1
      · exact .inl (Nat.le_trans hi.grow.size h1)
      · exact hXN r h1
    refine ⟨_, _, F', (hia.bind t (.map (some r)) (.mp kk es) ⟨_, by simp [upd], r, arr, clk, rfl, hN', hF, hh, hall⟩ ?_).put t ?_, hk⟩
    · intro j blk v' b _ g1 g2 g3 g4
      simp only [hblk, Option.some.injEq] at g4
      subst g4
      have h1 := (hi.mm j blk g1).block g2 g3
      rcases hN with h2 | h2
      · have := h1.2.2; omega
      · exact hXM j blk v' r g1 g2 g3 h2
    · exact mk_owm (by simp [upd])

theorem all_fz {ds : List DV} {vs : List Value} (h : ds.all isFz = true) (hv : All2 (RV M F w) ds vs) : All2 (ArgOK F w) (ds.map .fz) vs := by
  have key : ∀ d ∈ ds, isFz d = true := by simpa using h
  refine All2.of_get (by rw [hv.length]; simp) fun i r v h1 h2 => ?_
  rw [List.getElem?_map] at h1
  cases hd : ds[i]? with
  | none => simp [hd] at h1
  | some d =>
    simp [hd] at h1
    subst h1
    obtain ⟨v', e, r⟩ := hv.get i d hd
    rw [h2] at e; cases e
    exact (RV_fz (key d (List.mem_of_getElem? hd))).1 r
theorem own_none {ds : List DV} {vs : List Value} {b : Nat} : ¬ ownB (ds.map .fz) vs b := by
  rintro ⟨i, e, sz, xs, v, h1, _⟩
  rw [List.getElem?_map] at h1
  cases hd : ds[i]? <;> simp [hd] at h1
theorem kSpec_ok (hi : Inv O F0 w0 M F s.env s.mem a w) {f : Nat} {ds : List DV} {vs : Array Value} {dst : Option Nat} (hv : All2 (RV M F w) ds vs.toList) (hK : kSpec P f ds dst s K) :
    Calls P f vs w fun
      | .returned v, w'' => GdE w O F0 w0 K (a.put dst v) w''
      | .panicked chain, w'' => Q (.panic chain) a w''
      | .outgrown, _ => LetsOut Q := by
  obtain ⟨hfz, hK⟩ := hK
  have hno : ∀ (i j : Nat) e sz xs e' sz' xs' v v' b, (ds.map RK.fz)[i]? = some (.own e sz xs) → (ds.map RK.fz)[j]? = some (.own e' sz' xs') → vs.toList[i]? = some v → vs.toList[j]? = some v' → hblk v = some b → hblk v' = some b → i = j := by
    intro i j e sz xs e' sz' xs' _ _ _ h1
    rw [List.getElem?_map] at h1
    cases hd : ds[i]? <;> simp [hd] at h1
  rcases hK with ⟨d, h1, h2⟩ | ⟨e, sz, xs, t, rfl, h1, h2⟩ | ⟨kk, es, t, rfl, h1, h2⟩
  · exact (call_ok (Q := Q) hi h1 (all_fz hfz hv) hno (fun _ _ h => absurd h own_none) (fun _ _ _ _ _ _ _ => own_none) (fun _ h => absurd h own_none) (.inl ⟨d, rfl, h2⟩)).mono fun e w'' he => by cases e <;> first | exact ⟨he.1, he.2 fun _ => own_none⟩ | exact he
  · exact (call_ok (Q := Q) hi h1 (all_fz hfz hv) hno (fun _ _ h => absurd h own_none) (fun _ _ _ _ _ _ _ => own_none) (fun _ h => absurd h own_none) (.inr (.inl ⟨e, sz, xs, t, rfl, rfl, h2⟩))).mono fun e w'' he => by cases e <;> first | exact ⟨he.1, he.2 fun _ => own_none⟩ | exact he
  · exact (call_ok (Q := Q) hi h1 (all_fz hfz hv) hno (fun _ _ h => absurd h own_none) (fun _ _ _ _ _ _ _ => own_none) (fun _ h => absurd h own_none) (.inr (.inr ⟨kk, es, t, rfl, rfl, h2⟩))).mono fun e w'' he => by cases e <;> first | exact ⟨he.1, he.2 fun _ => own_none⟩ | exact he
theorem kSpecO_ok (hi : Inv O F0 w0 M F s.env s.mem a w) {f : Nat} {ds : List DV} {vs : Array Value} {dst : Option Nat} (hv : All2 (RV M F w) ds vs.toList) (hK : kSpecO P f ds dst s K) :
    Calls P f vs w fun
      | .returned v, w'' => Gd O F0 w0 K (a.put dst v) w''
      | .panicked chain, w'' => Q (.panic chain) a w''
      | .outgrown, _ => LetsOut Q := by
  obtain ⟨as, k, hka, hK⟩ := hK
  obtain ⟨g1, g2, g3⟩ := KArgs_ok hka hi hv
  have hX : ∀ b, ownB as vs.toList b → ∃ j blk v, k.contains j = true ∧ mget s.mem j = some blk ∧ M j = some v ∧ hblk v = some b := by
    rintro b ⟨i, e, sz, xs, v, h1, h2, h3⟩
    obtain ⟨j, q1, q2, q3⟩ := g2 i e sz xs v h1 h2
    exact ⟨j, _, v, q1, q2, q3, h3⟩
  have hi' : Inv O F0 w0 M F s.env (mdels k s.mem) a w := hi.mdels k
  have hXF : ∀ b o, ownB as vs.toList b → ¬ F b o := fun b o hb => by
    obtain ⟨j, blk, v, _, q2, q3, q4⟩ := hX b hb
    exact ((hi.mm j blk q2).block q3 q4).2.1 o
  have hXN : ∀ b, ownB as vs.toList b → Nw O w0 b := fun b hb => by
    obtain ⟨j, blk, v, _, q2, q3, q4⟩ := hX b hb
    exact ((hi.mm j blk q2).block q3 q4).1
  have hXM : ∀ i blk v b, mget (mdels k s.mem) i = some blk → M i = some v → hblk v = some b → ¬ ownB as vs.toList b := fun i blk v b h1 h2 h3 hb => by
    obtain ⟨j, blk', v', q1, q2, q3, q4⟩ := hX b hb
    obtain ⟨h4, h5⟩ := mget_mdels k s.mem i blk h1
    have := hi.dis i j blk blk' v v' b h5 q2 h2 q3 h3 q4
    rw [this, q1] at h4
    cases h4
  rcases hK with ⟨d, h1, h2⟩ | ⟨e, sz, xs, t, rfl, h1, h2⟩
  · exact (call_ok (Q := Q) hi' h1 g1 g3 hXF hXM hXN (.inl ⟨d, rfl, h2⟩)).mono fun e w'' he => by cases e <;> first | exact he.1 | exact he
  · exact (call_ok (Q := Q) hi' h1 g1 g3 hXF hXM hXN (.inr (.inl ⟨e, sz, xs, t, rfl, rfl, h2⟩))).mono fun e w'' he => by cases e <;> first | exact he.1 | exact he

theorem run_callFunc {f : Nat} (h : callable P f = true) (args : Array Value) : (callFunc f args).run P w = .ok (.enter f args) w := by
  unfold callable at h
  split at h
  · rename_i fn hf
    simp only [Bool.and_eq_true, Bool.not_eq_true'] at h
    have h2 : ¬ fn.name = "runtime.NumGoroutine" := by simpa using h.2
    simp [callFunc, hf, h2, Option.isNone_iff_eq_none, Option.isSome_iff_ne_none.1 h.1]
  · cases h
theorem spec_callable {f : Nat} {ds : List DV} {dst : Option Nat} (h : kSpec P f ds dst s K) : callable P f = true := by
  rcases h.2 with ⟨d, h1, _⟩ | ⟨e, sz, xs, t, _, h1, _⟩ | ⟨kk, es, t, _, h1, _⟩ <;> exact h1.1
theorem specO_callable {f : Nat} {ds : List DV} {dst : Option Nat} (h : kSpecO P f ds dst s K) : callable P f = true := by
  obtain ⟨as, k, _, h⟩ := h
  rcases h with ⟨d, h1, _⟩ | ⟨e, sz, xs, t, _, h1, _⟩ <;> exact h1.1
theorem run_call {xs : Array Operand} {ts : Array TypeId} {x : Operand} {f : Nat} {cap : Array Value} (ho : o.op = .call { callee := .value x, args := xs, argTypes := ts }) (hx : a.eval x = .func (.func f) #[] cap) (hc : callable P f = true) :
    (execOp a.eval o).run P w = .ok (.enter f (xs.map a.eval ++ cap)) w := by
  unfold execOp
  rw [ho]
  simp only [resolve, hx, Deferred.ofValue, Sem.run_bind, Sem.run_pure, Result.andThen_ok, invoke, Array.empty_append]
  exact run_callFunc hc _
theorem sound_callE (hi : Inv O F0 w0 M F s.env s.mem a w) {xs : Array Operand} {ts : Array TypeId} {f : Nat} {as : List AX} (ho : o.op = .call { callee := .value (.func f), args := xs, argTypes := ts }) (hx : trXs xs.toList = some as)
    (hK : dRun P (.call false f as) s o.dst K) : o.wp P a w (GdE w O F0 w0 K) Q := by
  obtain ⟨s', F', hi', _, hk⟩ := frzArgs_ok hi (show frzArgs as fuelF s _ from hK)
  unfold Oper.wp
  rw [run_call ho rfl (spec_callable hk)]
  simp only [Array.append_empty]
  exact kSpec_ok hi' (by simpa using trXs_ok hx hi') hk
theorem sound_call (hi : Inv O F0 w0 M F s.env s.mem a w) {xs : Array Operand} {ts : Array TypeId} {f : Nat} {as : List AX} {ow : Bool} (ho : o.op = .call { callee := .value (.func f), args := xs, argTypes := ts }) (hx : trXs xs.toList = some as)
    (hK : dRun P (.call ow f as) s o.dst K) : o.wp P a w (Gd O F0 w0 K) Q := by
  cases ow with
  | false =>
    exact Oper.wp_mono (fun _ _ h => h.1) (sound_callE hi ho hx hK)
  | true =>
    have hk : kSpecO P f (evs s.env as) o.dst s K := hK
    unfold Oper.wp
    rw [run_call ho rfl (specO_callable hk)]
    simp only [Array.append_empty]
    exact kSpecO_ok hi (by simpa using trXs_ok hx hi) hk
theorem sound_callv (hi : Inv O F0 w0 M F s.env s.mem a w) {xs : Array Operand} {ts : Array TypeId} {x : Operand} {ax : AX} {as : List AX} (ho : o.op = .call { callee := .value x, args := xs, argTypes := ts }) (hx : trX x = some ax) (hxs : trXs xs.toList = some as)
    (hK : dRun P (.callv ax as) s o.dst K) : o.wp P a w (GdE w O F0 w0 K) Q := by
  have h1 := trX_ok hx hi
  have hK : kFn (ev s.env ax) fun f cap => frzArgs as fuelF s fun s' => kSpec P f (evs s'.env as ++ cap) o.dst s' K := hK
  cases hd1 : ev s.env ax <;> rw [hd1] at hK h1 <;> first | exact hK.elim | skip
  rename_i f cap
  have h1 : RF F w (.fn f cap) _ := h1
  rw [RF] at h1
  obtain ⟨arr, e, h2⟩ := h1
  obtain ⟨s', F', hi', hkp, hk⟩ := frzArgs_ok hi (show frzArgs as fuelF s _ from hK)
  unfold Oper.wp
  rw [run_call ho e (spec_callable hk)]
  refine kSpec_ok hi' ?_ hk
  have h3 := trXs_ok hxs hi'
  have h4 := (RFs_iff.1 (RFs.mono hkp _ _ h2)).mono fun _ _ => RV_of_RF (M := M)
  simpa using h3.append h4
theorem sound_mkfn (hi : Inv O F0 w0 M F s.env s.mem a w) {f : Nat} {first captured : Array Operand} {as : List AX} (ho : o.op = .makeFunc (.func f) first captured) (hf : first = #[]) (hx : trXs captured.toList = some as)
    (hK : dRun P (.mkfn f as) s o.dst K) : o.wp P a w (Gd O F0 w0 K) Q := by
  obtain ⟨s', F', hi', hkp, h1, h2⟩ := frzArgs_ok hi (show frzArgs as fuelF s _ from hK)
  subst hf
  refine wp_put (v := .func (.func f) #[] (captured.map a.eval)) ?_ hi' ?_ h2
  · unfold execOp
    rw [ho]
    exact run_v (by simp [Instr.makeFunc])
  · show RF F' w _ _
    rw [RF]
    refine ⟨_, rfl, RFs_iff.2 ?_⟩
    have h3 := trXs_ok hx hi'
    have key : ∀ d ∈ evs s'.env as, isFz d = true := by simpa using h1
    refine All2.of_get (by rw [← h3.length]; simp) fun i d v e1 e2 => ?_
    obtain ⟨v', e3, r⟩ := h3.get i d e1
    have e2' : (captured.toList.map a.eval)[i]? = some v := by simpa using e2
    rw [e2'] at e3; cases e3
    exact (RV_fz (key d (List.mem_of_getElem? e1))).1 r
end
end Go.Proofs.YtcolebkklojccaaGreat.E

set_option linter.unusedSimpArgs false
set_option linter.unusedVariables false
namespace Go.Proofs.YtcolebkklojccaaGreat.E
open Go Go.MapKept

section
variable {kk : KK} {q : DV}
theorem mpLk_none : ∀ {es : List (DV × DV)}, (∀ p ∈ es, eqK kk q p.1 = false) → mpLk kk es q = none
  | [], _ => rfl
  | (k, v) :: r, h => by
    have h1 : eqK kk q k = false := h (k, v) (by simp)
    simp only [mpLk, h1, Bool.false_eq_true, if_false]
    exact mpLk_none fun p hp => h p (by simp [hp])
theorem mpLk_some {p : DV × DV} {l2 : List (DV × DV)} (hp : eqK kk q p.1 = true) : ∀ {l1 : List (DV × DV)}, (∀ p ∈ l1, eqK kk q p.1 = false) → mpLk kk (l1 ++ p :: l2) q = some p.2
  | [], _ => by simp [mpLk, hp]
  | (k, v) :: r, h => by
    have h1 : eqK kk q k = false := h (k, v) (by simp)
    simp only [List.cons_append, mpLk, h1, Bool.false_eq_true, if_false]
    exact mpLk_some hp fun p hp => h p (by simp [hp])
theorem mpPut_none {u : DV} : ∀ {es : List (DV × DV)}, (∀ p ∈ es, eqK kk q p.1 = false) → mpPut kk es q u = es ++ [(q, u)]
  | [], _ => rfl
  | (k, v) :: r, h => by
    have h1 : eqK kk q k = false := h (k, v) (by simp)
    simp only [mpPut, h1, Bool.false_eq_true, if_false, List.cons_append]
    rw [mpPut_none fun p hp => h p (by simp [hp])]
theorem mpPut_some {u : DV} {p : DV × DV} {l2 : List (DV × DV)} (hp : eqK kk q p.1 = true) : ∀ {l1 : List (DV × DV)}, (∀ p ∈ l1, eqK kk q p.1 = false) → mpPut kk (l1 ++ p :: l2) q u = l1 ++ (q, u) :: l2
  | [], _ => by
    obtain ⟨k, v⟩ := p
    simp only [List.nil_append, mpPut]
    rw [if_pos hp]
  | (k, v) :: r, h => by
    have h1 : eqK kk q k = false := h (k, v) (by simp)
    simp only [List.cons_append, mpPut, h1, Bool.false_eq_true, if_false]
    rw [mpPut_some hp fun p hp => h p (by simp [hp])]
theorem mpRem_none : ∀ {es : List (DV × DV)}, (∀ p ∈ es, eqK kk q p.1 = false) → mpRem kk es q = es
  | [], _ => rfl
  | (k, v) :: r, h => by
    have h1 : eqK kk q k = false := h (k, v) (by simp)
    simp only [mpRem, h1, Bool.false_eq_true, if_false]
    rw [mpRem_none fun p hp => h p (by simp [hp])]
theorem mpRem_some {p : DV × DV} {l2 : List (DV × DV)} (hp : eqK kk q p.1 = true) : ∀ {l1 : List (DV × DV)}, (∀ p ∈ l1, eqK kk q p.1 = false) → mpRem kk (l1 ++ p :: l2) q = l1 ++ l2
  | [], _ => by
    obtain ⟨k, v⟩ := p
    simp only [List.nil_append, mpRem]
    rw [if_pos hp]
  | (k, v) :: r, h => by
    have h1 : eqK kk q k = false := h (k, v) (by simp)
    simp only [List.cons_append, mpRem, h1, Bool.false_eq_true, if_false]
    rw [mpRem_some hp fun p hp => h p (by simp [hp])]
end

section
variable {P : Program} {O : Nat → Prop} {F0 : Frz} {w0 : World} {M : Hnd} {F : Frz} {a : Act} {w w' : World} {s : DS} {K : DS → Prop} {Q : Exit → Act → World → Prop} {o : Oper}

/-- what a search says -/
def Found (kk : KK) (q : DV) (es : List (DV × DV)) (arr : List MapEntry) (r : Option (Nat × Value)) : Prop :=
  (r = none ∧ ∀ p ∈ es, eqK kk q p.1 = false) ∨
  ∃ l1 p l2 e, es = l1 ++ p :: l2 ∧ (∀ p' ∈ l1, eqK kk q p'.1 = false) ∧ eqK kk q p.1 = true ∧ arr[l1.length]? = some e ∧ r = some (l1.length, e.val)

theorem pl_same {k : TypeId} {pk : PK} (hk : plainEq P k = some pk) {x y : DV} {u v : Value} (hx : isPl pk x = true) (hy : isPl pk y = true) (hu : RF F w x u) (hv : RF F w y v) {d : TypeDesc} (hd : P.underlying k = some d) :
    Instr.sameNow d u v = some (eqK (.pl pk) x y) ∧ (∀ e n W, (Instr.checkKey e (n + 1) k u).run P W = .ok () W) ∧ (eqK (.pl pk) x y = true → Instr.sameBits 10000 v u = true) := by
  unfold plainEq at hk
  rw [hd] at hk
  cases pk <;> cases x <;> try (simp [isPl] at hx; done)
  all_goals cases y <;> try (simp [isPl] at hy; done)
  · rw [RF] at hu hv
    subst hu; subst hv
    cases d <;> simp at hk
    refine ⟨by simp [Instr.sameNow, eqK, eqKey, eqP], fun e n W => by simp [Instr.checkKey, run_underlying hd], fun h => ?_⟩
    simp [eqK, eqKey, eqP] at h
    simp [Instr.sameBits, h]
  · rename_i k1 a k2 b
    rw [RF] at hu hv
    subst hu; subst hv
    cases d <;> simp at hk
    cases k1 <;> simp [isPl] at hx
    cases k2 <;> simp [isPl] at hy
    refine ⟨by simp [Instr.sameNow, eqK, eqKey, eqP], fun e n W => by simp [Instr.checkKey, run_underlying hd], fun h => ?_⟩
    simp [eqK, eqKey, eqP] at h
    simp [Instr.sameBits, h]
  · rw [RF] at hu hv
    obtain ⟨rfl, _⟩ := hu
    obtain ⟨rfl, _⟩ := hv
    cases d <;> simp at hk
    rename_i a b _ _
    have e : ∀ a b : List UInt8, ((⟨a.toArray⟩ : ByteArray) == ⟨b.toArray⟩) = (a == b) := by
      intro a b
      show (a.toArray == b.toArray) = _
      simp
    refine ⟨by simp [Instr.sameNow, eqK, eqKey, eqP, e], fun e n W => by simp [Instr.checkKey, run_underlying hd], fun h => ?_⟩
    simp [eqK, eqKey, eqP] at h
    subst h
    simp [Instr.sameBits, e]

theorem findNow_ok {pk : PK} {q : DV} {v : Value} {d : TypeDesc} (hs : ∀ y u, isPl pk y = true → RF F w y u → Instr.sameNow d v u = some (eqK (.pl pk) q y)) : ∀ {es : List (DV × DV)} {arr : List MapEntry}, All2 (EntOK F w (.pl pk)) es arr → ∀ i,
    (Instr.findNow d v arr i = some none ∧ ∀ p ∈ es, eqK (.pl pk) q p.1 = false) ∨
    ∃ l1 p l2 e, es = l1 ++ p :: l2 ∧ (∀ p' ∈ l1, eqK (.pl pk) q p'.1 = false) ∧ eqK (.pl pk) q p.1 = true ∧ arr[l1.length]? = some e ∧ Instr.findNow d v arr i = some (some (i + l1.length, e.val))
  | [], arr, h, i => by
    rw [All2] at h
    subst h
    exact .inl ⟨rfl, by simp⟩
  | p :: es, arr, h, i => by
    rw [All2] at h
    obtain ⟨e, r, rfl, h1, h2⟩ := h
    have h3 := hs p.1 e.key h1.1 h1.2.1
    cases hb : eqK (.pl pk) q p.1 with
    | true =>
      rw [hb] at h3
      exact .inr ⟨[], p, es, e, rfl, by simp, hb, rfl, by simp [Instr.findNow, h3]⟩
    | false =>
      rw [hb] at h3
      rcases findNow_ok hs h2 (i + 1) with ⟨g1, g2⟩ | ⟨l1, p', l2, e', g1, g2, g3, g4, g5⟩
      · exact .inl ⟨by simp [Instr.findNow, h3, g1], by
          intro p' hp'
          rcases List.mem_cons.1 hp' with rfl | hp'
          · exact hb
          · exact g2 p' hp'⟩
      · refine .inr ⟨p :: l1, p', l2, e', by rw [g1]; rfl, ?_, g3, by simpa using g4, ?_⟩
        · intro p2 hp2
          rcases List.mem_cons.1 hp2 with rfl | hp2
          · exact hb
          · exact g2 p2 hp2
        · simp only [Instr.findNow, h3, g5, List.length_cons]
          congr 3
          omega

theorem keyKK_cases {k : TypeId} {kk : KK} (h : keyKK P k = some kk) : (∃ pk, kk = .pl pk ∧ plainEq P k = some pk) ∨ ∃ ks, kk = .ag ks ∧ flatEq P k = some ks := by
  unfold keyKK at h
  split at h
  · rename_i pk hk
    cases h
    exact .inl ⟨pk, rfl, hk⟩
  · split at h
    · rename_i ks hk
      cases h
      exact .inr ⟨ks, rfl, hk⟩
    · cases h
theorem plain_desc {k : TypeId} {pk : PK} (hp : plainEq P k = some pk) : ∃ d, P.underlying k = some d := by
  unfold plainEq at hp
  cases hu : P.underlying k with
  | none => rw [hu] at hp; cases hp
  | some d => exact ⟨d, rfl⟩
theorem isPl_eq {k : PK} {x y : DV} (hx : isPl k x = true) (hy : isPl k y = true) : ∃ r, eqP k x y = some r := by
  cases k <;> cases x <;> try (simp [isPl] at hx; done)
  all_goals cases y <;> try (simp [isPl] at hy; done)
  · exact ⟨_, rfl⟩
  · rename_i k1 a k2 b
    cases k1 <;> simp [isPl] at hx
    cases k2 <;> simp [isPl] at hy
    exact ⟨a == b, by simp [eqP]⟩
  · exact ⟨_, rfl⟩
theorem isPls_eq : ∀ {ks : List PK} {cs ds : List DV}, isPls ks cs = true → isPls ks ds = true → ∃ r, eqPs ks cs ds = some r
  | [], [], [], _, _ => ⟨true, by simp [eqPs]⟩
  | [], [], _ :: _, _, h => by simp [isPls] at h
  | [], _ :: _, _, h, _ => by simp [isPls] at h
  | _ :: _, [], _, h, _ => by simp [isPls] at h
  | _ :: _, _ :: _, [], _, h => by simp [isPls] at h
  | k :: ks, c :: cs, d :: ds, h1, h2 => by
    simp only [isPls, Bool.and_eq_true] at h1 h2
    obtain ⟨r, hr⟩ := isPl_eq h1.1 h2.1
    obtain ⟨r', hr'⟩ := isPls_eq h1.2 h2.2
    exact ⟨r && r', by simp [eqPs, hr, hr', andO]⟩
theorem isPl_same {k : PK} {x y : DV} (hx : isPl k x = true) (hy : isPl k y = true) (h : eqP k x y = some true) {u v : Value} (hu : RF F w x u) (hv : RF F w y v) : u = v ∧ ∀ n, Instr.sameBits n u u = true := by
  cases k <;> cases x <;> try (simp [isPl] at hx; done)
  all_goals cases y <;> try (simp [isPl] at hy; done)
  · rw [RF] at hu hv
    subst hu; subst hv
    simp [eqP] at h
    subst h
    exact ⟨rfl, fun n => by cases n <;> simp [Instr.sameBits]⟩
  · rename_i k1 a k2 b
    rw [RF] at hu hv
    subst hu; subst hv
    cases k1 <;> simp [isPl] at hx
    cases k2 <;> simp [isPl] at hy
    simp [eqP] at h
    subst h
    exact ⟨rfl, fun n => by cases n <;> simp [Instr.sameBits]⟩
  · rw [RF] at hu hv
    obtain ⟨rfl, _⟩ := hu
    obtain ⟨rfl, _⟩ := hv
    simp [eqP] at h
    subst h
    refine ⟨rfl, fun n => ?_⟩
    have e : ∀ a : ByteArray, (a == a) = true := by
      intro a
      show (a.data == a.data) = true
      simp
    cases n <;> simp [Instr.sameBits, e]
theorem isPls_same : ∀ {ks : List PK} {cs ds : List DV} {us vs : List Value}, isPls ks cs = true → isPls ks ds = true → eqPs ks cs ds = some true → All2 (RF F w) cs us → All2 (RF F w) ds vs → us = vs ∧ ∀ u ∈ us, ∀ n, Instr.sameBits n u u = true
  | [], [], [], us, vs, _, _, _, h1, h2 => by
    rw [All2] at h1 h2
    subst h1; subst h2
    exact ⟨rfl, by simp⟩
  | [], [], _ :: _, _, _, _, h, _, _, _ => by simp [isPls] at h
  | [], _ :: _, _, _, _, h, _, _, _, _ => by simp [isPls] at h
  | _ :: _, [], _, _, _, h, _, _, _, _ => by simp [isPls] at h
  | _ :: _, _ :: _, [], _, _, _, h, _, _, _ => by simp [isPls] at h
  | k :: ks, c :: cs, d :: ds, us, vs, h1, h2, h3, h4, h5 => by
    simp only [isPls, Bool.and_eq_true] at h1 h2
    rw [All2] at h4 h5
    obtain ⟨u, us', rfl, g1, g2⟩ := h4
    obtain ⟨v, vs', rfl, g3, g4⟩ := h5
    obtain ⟨r, hr⟩ := isPl_eq h1.1 h2.1
    obtain ⟨r', hr'⟩ := isPls_eq h1.2 h2.2
    simp only [eqPs, hr, hr', andO, Option.some.injEq, Bool.and_eq_true] at h3
    obtain ⟨rfl, rfl⟩ := h3
    obtain ⟨rfl, e1⟩ := isPl_same h1.1 h2.1 hr g1 g3
    obtain ⟨rfl, e2⟩ := isPls_same h1.2 h2.2 hr' g2 g4
    refine ⟨rfl, fun x hx => ?_⟩
    rcases List.mem_cons.1 hx with rfl | hx
    · exact e1
    · exact e2 x hx
theorem isPls_get : ∀ {ks : List PK} {cs : List DV} (i : Nat) (k : PK), isPls ks cs = true → ks[i]? = some k → ∃ c, cs[i]? = some c ∧ isPl k c = true
  | [], _, i, k, _, h => by simp at h
  | _ :: _, [], _, _, h, _ => by simp [isPls] at h
  | k' :: ks, c :: cs, 0, k, h, hi => by
    simp only [isPls, Bool.and_eq_true] at h
    simp at hi
    subst hi
    exact ⟨c, rfl, h.1⟩
  | k' :: ks, c :: cs, i + 1, k, h, hi => by
    simp only [isPls, Bool.and_eq_true] at h
    simpa using isPls_get i k h.2 (by simpa using hi)
theorem flat_equal {t : TypeId} {ks : List PK} (ht : flatEq P t = some ks) {xs ys : Array Value} {cs ds : List DV} (g1 : All2 (RF F w) cs xs.toList) (g2 : All2 (RF F w) ds ys.toList) {r : Bool} (hr : eqPs ks cs ds = some r) : (Op.equal t (.agg xs) (.agg ys)).run P w = .ok r w := by
  unfold flatEq at ht
  split at ht
  · cases ht
  · unfold Op.equal Op.maxDepth
    split at ht
    · rename_i n e hu
      split at ht
      · rename_i k hk hsz
        cases ht
        simp only [szT, Option.map_eq_some_iff] at hsz
        obtain ⟨i, hinf, hsz⟩ := hsz
        have hc1 : P.cellsOf e = 1 := by simp [Program.cellsOf, hinf, hsz]
        rw [run_equalIn_array w 9999 xs ys hu hinf, hc1, List.range_eq_range']
        exact eqItems_ok hk g1 g2 9998 n 0 r (by simpa using hr)
      · cases ht
    · rename_i fs hu
      split at ht
      · cases ht
      · rename_i hst
        have hfo : P.fieldsOf t = fs := by simp [Program.fieldsOf, hu]
        rw [run_equalIn_struct w 9999 t xs ys (by rw [hfo]; exact hu) (by simpa using hst), hfo]
        exact eqFields_ok g1 g2 9998 fs.toList 0 ks ht r (by simpa using hr)
    · cases ht
theorem check_plain {e : TypeId} {pk : PK} (he : plainEq P e = some pk) {c : DV} {u : Value} (hc : isPl pk c = true) (hu : RF F w c u) (em : Bool) (n : Nat) : (Instr.checkKey em (n + 1) e u).run P w = .ok () w := by
  obtain ⟨d, hd⟩ := plain_desc he
  exact (pl_same he hc hc hu hu hd).2.1 em n w
theorem check_flat {k : TypeId} {ks : List PK} (hk : flatEq P k = some ks) {xs : Array Value} {cs : List DV} (hc : isPls ks cs = true) (g : All2 (RF F w) cs xs.toList) (em : Bool) (n : Nat) : (Instr.checkKey em (n + 2) k (.agg xs)).run P w = .ok () w := by
  unfold flatEq at hk
  split at hk
  · cases hk
  · split at hk
    · rename_i len e hu
      split at hk
      · rename_i pk he hsz
        cases hk
        simp only [szT, Option.map_eq_some_iff] at hsz
        obtain ⟨i, hinf, hsz⟩ := hsz
        have hs : (sizeOf e).run P w = .ok 1 w := run_sizeOf (by simp [szT, hinf, hsz]) w
        rw [Instr.checkKey]
        simp only [Sem.run_bind, run_underlying hu, Result.andThen_ok]
        simp only [Std.Legacy.Range.forIn_eq_forIn_range', Std.Legacy.Range.size, Nat.sub_zero, Nat.add_one_sub_one, Nat.div_one]
        have each : ∀ j ∈ List.range' 0 len, ∃ c u, (part e xs j).run P w = .ok u w ∧ isPl pk c = true ∧ RF F w c u := by
          intro j hj
          have hj' : j < len := by simpa using hj
          obtain ⟨c, h1, h2⟩ := isPls_get j pk hc (by simp [hj'])
          obtain ⟨u, h3, h4⟩ := g.get j c h1
          exact ⟨c, u, part_plain he h3, h2, h4⟩
        generalize List.range' 0 len = is at each
        induction is with
        | nil => simp
        | cons j is ih =>
          obtain ⟨c, u, p1, p2, p3⟩ := each j (by simp)
          have p4 := check_plain he p2 p3 em n
          simp only [List.forIn_cons, Sem.run_bind, hs, Result.andThen_ok, Nat.mul_one, p1, p4, Sem.run_pure]
          exact ih (fun y hy => each y (by simp [hy]))
      · cases hk
    · rename_i fs hu
      split at hk
      · cases hk
      · rw [Instr.checkKey]
        simp only [Sem.run_bind, run_underlying hu, Result.andThen_ok]
        rw [← Array.forIn_toList]
        have all : ∀ (L : List Field) (i : Nat) (ks : List PK), flatFs P i L = some ks → isPls ks (cs.drop i) = true → ∀ f ∈ L, f.name ≠ "_" ∧ ∃ pk c u, plainEq P f.type = some pk ∧ (part f.type xs f.offset).run P w = .ok u w ∧ isPl pk c = true ∧ RF F w c u := by
          intro L
          induction L with
          | nil => intro i ks _ _ f hf; simp at hf
          | cons f L ih =>
            intro i ks hks hp f' hf'
            simp only [flatFs] at hks
            split at hks <;> first | (cases hks; done) | skip
            rename_i pk ks' h1 h2
            split at hks <;> first | (cases hks; done) | skip
            rename_i hcnd
            cases hks
            simp only [Bool.and_eq_true, beq_iff_eq, bne_iff_ne] at hcnd
            cases hd : cs.drop i with
            | nil => rw [hd] at hp; simp [isPls] at hp
            | cons c cr =>
              rw [hd] at hp
              simp only [isPls, Bool.and_eq_true] at hp
              rcases List.mem_cons.1 hf' with rfl | hf'
              · have e1 : cs[i]? = some c := by
                  have : (cs.drop i)[0]? = some c := by rw [hd]; rfl
                  simpa using this
                obtain ⟨u, u1, u2⟩ := g.get i c e1
                exact ⟨hcnd.2, pk, c, u, h1, by rw [hcnd.1]; exact part_plain h1 u1, hp.1, u2⟩
              · have hcr : cs.drop (i + 1) = cr := by rw [← List.drop_drop, hd]; rfl
                exact ih (i + 1) ks' h2 (by rw [hcr]; exact hp.2) f' hf'
        have each := all fs.toList 0 ks hk (by simpa using hc)
        clear all
        generalize fs.toList = L at each
        induction L with
        | nil => simp
        | cons f L ih =>
          obtain ⟨hn, pk, c, u, p0, p1, p2, p3⟩ := each f (by simp)
          have p4 := check_plain p0 p2 p3 em n
          simp only [List.forIn_cons, Sem.run_bind, hn, ne_eq, not_false_eq_true, if_true, Result.andThen_ok, p1, p4, Sem.run_pure]
          exact ih (fun y hy => each y (by simp [hy]))
    · cases hk

theorem findAsk_ok {k : TypeId} {ks : List PK} (hk : flatEq P k = some ks) {cs : List DV} {xs : Array Value} (hq : isPls ks cs = true) (hv : All2 (RF F w) cs xs.toList) : ∀ {es : List (DV × DV)} {arr : List MapEntry}, All2 (EntOK F w (.ag ks)) es arr → ∀ i,
    ((Instr.findAsking k (.agg xs) arr i).run P w = .ok none w ∧ ∀ p ∈ es, eqK (.ag ks) (.agg cs) p.1 = false) ∨
    ∃ l1 p l2 e, es = l1 ++ p :: l2 ∧ (∀ p' ∈ l1, eqK (.ag ks) (.agg cs) p'.1 = false) ∧ eqK (.ag ks) (.agg cs) p.1 = true ∧ arr[l1.length]? = some e ∧ (Instr.findAsking k (.agg xs) arr i).run P w = .ok (some (i + l1.length, e.val)) w
  | [], arr, h, i => by
    rw [All2] at h
    subst h
    exact .inl ⟨by simp [Instr.findAsking], by simp⟩
  | p :: es, arr, h, i => by
    rw [All2] at h
    obtain ⟨e, r, rfl, h1, h2⟩ := h
    obtain ⟨pk, pv⟩ := p
    have hkey := h1.1
    have hkr := h1.2.1
    cases pk <;> try (simp [isKey] at hkey; done)
    rename_i ds
    simp only [isKey] at hkey
    obtain ⟨ys, e2, _, g2⟩ := RV_agg (M := fun _ => none) (RV_of_RF hkr)
    obtain ⟨b, hb⟩ := isPls_eq hq hkey
    have heq := flat_equal hk hv g2 hb
    rw [← e2] at heq
    have hK : eqK (.ag ks) (.agg cs) (.agg ds) = b := by simp [eqK, eqKey, hb]
    cases b with
    | true => exact .inr ⟨[], (.agg ds, pv), es, e, rfl, by simp, hK, rfl, by simp [Instr.findAsking, heq]⟩
    | false =>
      rcases findAsk_ok hk hq hv h2 (i + 1) with ⟨g1, g3⟩ | ⟨l1, p', l2, e', g1, g3, g4, g5, g6⟩
      · refine .inl ⟨by simp [Instr.findAsking, heq, g1], ?_⟩
        intro p' hp'
        rcases List.mem_cons.1 hp' with rfl | hp'
        · exact hK
        · exact g3 p' hp'
      · refine .inr ⟨(.agg ds, pv) :: l1, p', l2, e', by rw [g1]; rfl, ?_, g4, by simpa using g5, ?_⟩
        · intro p2 hp2
          rcases List.mem_cons.1 hp2 with rfl | hp2
          · exact hK
          · exact g3 p2 hp2
        · have e3 : i + (l1.length + 1) = i + 1 + l1.length := by omega
          simp [Instr.findAsking, heq, g6, e3]
theorem findKey_flat {k : TypeId} {ks : List PK} (hk : flatEq P k = some ks) (x : Value) (es : List MapEntry) (W : World) : (Instr.findKey k x es).run P W = (Instr.findAsking k x es).run P W := by
  unfold flatEq at hk
  split at hk
  · cases hk
  · cases hu : P.underlying k with
    | none => rw [hu] at hk; cases hk
    | some kd =>
      rw [hu] at hk
      cases es with
      | nil => simp [Instr.findKey, run_underlying hu, Instr.findNow, Instr.findAsking]
      | cons e es => cases kd <;> simp at hk <;> simp [Instr.findKey, run_underlying hu, Instr.findNow, Instr.sameNow]

theorem find_ok {k : TypeId} {kk : KK} (hk : keyKK P k = some kk) {q : DV} {v : Value} (hq : isKey kk q = true) (hv : RF F w q v) {es : List (DV × DV)} {arr : Array MapEntry} (h : All2 (EntOK F w kk) es arr.toList) :
    (∀ e, (Instr.checkKey e 10000 k v).run P w = .ok () w) ∧ ∃ r, (Instr.findKey k v arr.toList).run P w = .ok r w ∧ Found kk q es arr.toList r := by
  rcases keyKK_cases hk with ⟨pk, rfl, hp⟩ | ⟨ks, rfl, hp⟩
  · obtain ⟨d, hd⟩ := plain_desc hp
    refine ⟨fun e => (pl_same hp hq hq hv hv hd).2.1 e 9999 w, ?_⟩
    rcases findNow_ok (fun y u hy hu => (pl_same hp hq hy hv hu hd).1) h 0 with ⟨g1, g2⟩ | ⟨l1, p, l2, e, g1, g2, g3, g4, g5⟩
    · exact ⟨_, run_findKey hd g1, .inl ⟨rfl, g2⟩⟩
    · exact ⟨_, run_findKey hd g5, .inr ⟨l1, p, l2, e, g1, g2, g3, g4, by rw [Nat.zero_add]⟩⟩
  · cases q <;> try (simp [isKey] at hq; done)
    rename_i cs
    simp only [isKey] at hq
    obtain ⟨xs, rfl, _, g⟩ := RV_agg (M := fun _ => none) (RV_of_RF hv)
    refine ⟨fun e => check_flat hp hq g e 9998, ?_⟩
    rw [findKey_flat hp]
    rcases findAsk_ok hp hq g h 0 with ⟨g1, g2⟩ | ⟨l1, p, l2, e, g1, g2, g3, g4, g5⟩
    · exact ⟨_, g1, .inl ⟨rfl, g2⟩⟩
    · exact ⟨_, g5, .inr ⟨l1, p, l2, e, g1, g2, g3, g4, by rw [Nat.zero_add]⟩⟩
theorem stays_ok {k : TypeId} {kk : KK} (hk : keyKK P k = some kk) {q y : DV} {v u : Value} (hq : isKey kk q = true) (hy : isKey kk y = true) (hv : RF F w q v) (hu : RF F w y u) (h : eqK kk q y = true) : (Instr.keyThatStays u v).run P w = .ok v w := by
  rcases keyKK_cases hk with ⟨pk, rfl, hp⟩ | ⟨ks, rfl, hp⟩
  · obtain ⟨d, hd⟩ := plain_desc hp
    have := (pl_same hp hq hy hv hu hd).2.2 h
    simp [Instr.keyThatStays, this]
  · cases q <;> try (simp [isKey] at hq; done)
    cases y <;> try (simp [isKey] at hy; done)
    simp only [isKey] at hq hy
    obtain ⟨xs, rfl, _, g⟩ := RV_agg (M := fun _ => none) (RV_of_RF hv)
    obtain ⟨ys, rfl, _, g'⟩ := RV_agg (M := fun _ => none) (RV_of_RF hu)
    obtain ⟨b, hb⟩ := isPls_eq hq hy
    simp only [eqK, eqKey, hb, Option.getD_some] at h
    subst h
    obtain ⟨e1, e2⟩ := isPls_same hq hy hb g g'
    have e3 : xs = ys := Array.ext' e1
    subst e3
    have : Instr.sameBits 10000 (.agg xs) (.agg xs) = true := by
      rw [Instr.sameBits]
      simp only [beq_self_eq_true, Bool.true_and, List.all_eq_true]
      rintro ⟨a, b⟩ hab
      have hz : ∀ (l : List Value), (a, b) ∈ l.zip l → a ∈ l ∧ a = b := by
        intro l
        induction l with
        | nil => simp
        | cons x l ih =>
          intro h
          rw [List.zip_cons_cons] at h
          rcases List.mem_cons.1 h with h | h
          · cases h
            exact ⟨by simp, rfl⟩
          · exact ⟨by simp [(ih h).1], (ih h).2⟩
      obtain ⟨h1, rfl⟩ := hz _ hab
      exact e2 a h1 9999
    simp [Instr.keyThatStays, this]

theorem mapKK_ok {t : TypeId} {kk : KK} {z : DV} (h : mapKK P t = some (kk, z)) : ∃ k e, P.underlying t = some (.map k e) ∧ keyKK P k = some kk ∧ zero1 P e = some z := by
  unfold mapKK at h
  split at h <;> first | (cases h; done) | skip
  rename_i k e hu
  split at h <;> first | (cases h; done) | skip
  rename_i kk' z' h1 h2
  cases h
  exact ⟨k, e, hu, h1, h2⟩
theorem zero1_ok {t : TypeId} {z : DV} (h : zero1 P t = some z) : ∃ v, (∀ w : World, (zeroValue t).run P w = .ok v w) ∧ constS v = some z := by
  unfold zero1 at h
  split at h <;> first | (cases h; done) | skip
  rename_i i hi
  split at h <;> first | (cases h; done) | skip
  rename_i v hv
  refine ⟨v, fun w => ?_, h⟩
  simp [zeroValue, typeInfo, Sem.run, hi, hv]

/-- an own map -/
theorem Inv.mapAt {env : List DV} {mem : Mem} (hi : Inv O F0 w0 M F env mem a w) {j : Nat} {kk : KK} {es : List (DV × DV)} (hm : mget mem j = some (.mp kk es)) {v : Value} (hv : RV M F w (.ow j) v) :
    ∃ r arr clk, v = .map (some r) ∧ M j = some (.map (some r)) ∧ Nw O w0 r ∧ (∀ o, ¬ F r o) ∧ w.heap[r]? = some (.map arr clk) ∧ EntsOK F w kk es arr clk := by
  obtain ⟨v', h1, r, arr, clk, e1, h2, h3, h4, h5⟩ := hi.mm j _ hm
  have h6 : M j = some v := (show RVc M F w (.ow j) v from hv).1
  rw [h1] at h6; cases h6
  exact ⟨r, arr, clk, e1, by rw [h1, e1], h2, h3, h4, h5⟩

theorem sound_mkm (hi : Inv O F0 w0 M F s.env s.mem a w) {t : TypeId} {r : Option Operand} {ar : Option AX} {kk : KK} {z : DV} (ho : o.op = .makeMap t r) (hm : mapKK P t = some (kk, z)) (hr : trO r = some ar)
    (hK : kMkm kk (evO s.env ar) o.dst s K) : o.wp P a w (Gd O F0 w0 K) Q := by
  obtain ⟨k, e, hu, _, _⟩ := mapKK_ok hm
  obtain ⟨hI, hK⟩ := hK
  have hrun : (execOp a.eval o).run P w = .ok (.value (.map (some w.heap.size))) (w.alloc (.map #[] 0)) := by
    unfold execOp
    rw [ho]
    refine run_v ?_
    cases r with
    | none => simp [Instr.makeMap, run_newObj, Result.andThen, World.alloc_eq]
    | some x =>
      simp only [trO, Option.map_eq_some_iff] at hr
      obtain ⟨ax, hx, rfl⟩ := hr
      have h1 := trX_ok hx hi
      simp only [evO] at hI
      cases hd : ev s.env ax <;> rw [hd] at hI h1 <;> first | exact hI.elim | skip
      have e1 := RV_int h1
      simp [Instr.makeMap, run_underlying hu, e1, asInt, asIntOf, run_newObj, Result.andThen, World.alloc_eq]
  cases hdst : o.dst with
  | none => rw [hdst] at hK; exact hK.elim
  | some d =>
    rw [hdst] at hK
    have hK : kBind (some d) s K (.ow d) (.mp kk []) := hK
    refine wp_bind (u := .map (some w.heap.size)) (blk := .mp kk []) (d := .ow d) hrun (hi.alloc _) ?_ ?_ ?_ (by rw [hdst]; exact hK)
    · intro k
      exact ⟨_, by simp [upd], w.heap.size, #[], 0, rfl, .inl hi.grow.size, fun o ho => Nat.lt_irrefl _ (hi.grow.fwf _ o ho), heap_alloc_new w _, by simp [All2], by simp [Stamps]⟩
    · intro k j blk' v b _ e1 e2 e3 e4
      simp only [hblk, Option.some.injEq] at e4
      exact hi.fresh e1 e2 e3 e4.symm
    · intro k hk
      rw [hdst] at hk
      cases hk
      exact mk_owm (by simp [upd])

theorem sound_mlk (hi : Inv O F0 w0 M F s.env s.mem a w) {t : TypeId} {x i : Operand} {ax ai : AX} {kk : KK} {z : DV} (ho : o.op = .lookup t x i false) (hm : mapKK P t = some (kk, z)) (hx : trX x = some ax) (hk : trX i = some ai)
    (hK : kMlk kk z (ev s.env ax) (ev s.env ai) s.mem (kPut o.dst s K)) : o.wp P a w (Gd O F0 w0 K) Q := by
  have h1 := trX_ok hx hi
  have h2 := trX_ok hk hi
  obtain ⟨k, e, hu, hkk, hz⟩ := mapKK_ok hm
  obtain ⟨zv, hz1, hz2⟩ := zero1_ok hz
  cases hd : ev s.env ax <;> rw [hd] at hK h1 <;> first | exact hK.elim | skip
  rename_i j
  simp only [kMlk] at hK
  cases hg : mget s.mem j with
  | none => rw [hg] at hK; exact hK.elim
  | some blk =>
    rw [hg] at hK
    cases blk with
    | box cs => exact hK.elim
    | vec e' s' xs => exact hK.elim
    | mp kk' es =>
      obtain ⟨rfl, hkey, hK⟩ := hK
      obtain ⟨r, arr, clk, e1, hM, hN, hF, hheap, hall⟩ := hi.mapAt hg h1
      have h2' : RF F w (ev s.env ai) (a.eval i) := by
        have hf : isFz (ev s.env ai) = true := by
          cases kk' <;> cases hq : ev s.env ai <;> rw [hq] at hkey <;> first | rfl | (simp [isKey, isPl] at hkey)
        exact (RV_fz hf).1 h2
      obtain ⟨hc, res, hf, hfound⟩ := find_ok hkk hkey h2' hall.1
      have hobj := MapKept.run_getObj_map (P := P) hheap
      rcases hfound with ⟨rfl, hno⟩ | ⟨l1, p, l2, en, rfl, hl1, hp, harr, rfl⟩
      · rw [mpLk_none hno] at hK
        refine wp_put (v := zv) (d := z) ?_ hi (RV_of_RF (constS_ok hz2 F w).1) hK
        unfold execOp
        rw [ho]
        refine run_v ?_
        rw [e1]
        simp [Instr.lookup, run_underlying hu, hobj, hc, hf, hz1, Result.andThen]
      · rw [mpLk_some hp hl1] at hK
        have hent : EntOK F w kk' p en := by
          obtain ⟨b', g1, g2⟩ := hall.1.get l1.length p (by simp)
          rw [harr] at g1
          cases g1
          exact g2
        refine wp_put (v := en.val) (d := p.2) ?_ hi (RV_of_RF hent.2.2.1) hK
        unfold execOp
        rw [ho]
        refine run_v ?_
        rw [e1]
        simp [Instr.lookup, run_underlying hu, hobj, hc, hf, Result.andThen]

theorem All2.splitAt {α β : Type} {R : α → β → Prop} {l1 : List α} {p : α} {l2 : List α} {bs : List β} (h : All2 R (l1 ++ p :: l2) bs) : ∃ b1 b b2, bs = b1 ++ b :: b2 ∧ b1.length = l1.length ∧ All2 R l1 b1 ∧ R p b ∧ All2 R l2 b2 := by
  induction l1 generalizing bs with
  | nil =>
    rw [List.nil_append, All2] at h
    obtain ⟨b, r, rfl, h1, h2⟩ := h
    exact ⟨[], b, r, rfl, rfl, All2.nil, h1, h2⟩
  | cons x l1 ih =>
    rw [List.cons_append, All2] at h
    obtain ⟨b, r, rfl, h1, h2⟩ := h
    obtain ⟨b1, b', b2, rfl, e, g1, g2, g3⟩ := ih h2
    exact ⟨b :: b1, b', b2, rfl, by simp [e], All2.cons h1 g1, g2, g3⟩

theorem stamps_push {arr : Array MapEntry} {clk : Nat} {k v : Value} (h : Stamps arr clk) : Stamps (arr.push { key := k, val := v, born := clk }) (clk + 1) := by
  refine ⟨fun x hx => ?_, ?_⟩
  · rw [Array.toList_push, List.mem_append] at hx
    rcases hx with hx | hx
    · have := h.1 x hx
      omega
    · simp at hx
      subst hx
      simp
  · rw [Array.toList_push, List.map_append, List.nodup_append]
    refine ⟨h.2, by simp, ?_⟩
    intro a ha b hb
    simp at hb
    subst hb
    rw [List.mem_map] at ha
    obtain ⟨x, hx, rfl⟩ := ha
    have := h.1 x hx
    omega
theorem stamps_list {arr arr' : Array MapEntry} {clk : Nat} (h : Stamps arr clk) (he : arr'.toList.map (·.born) = arr.toList.map (·.born)) : Stamps arr' clk := by
  refine ⟨fun x hx => ?_, by rw [he]; exact h.2⟩
  have : x.born ∈ arr.toList.map (·.born) := by rw [← he]; exact List.mem_map.2 ⟨x, hx, rfl⟩
  obtain ⟨y, hy, hxy⟩ := List.mem_map.1 this
  rw [← hxy]
  exact h.1 y hy
theorem stamps_sub {arr arr' : Array MapEntry} {clk : Nat} (h : Stamps arr clk) (he : arr'.toList.Sublist arr.toList) : Stamps arr' clk :=
  ⟨fun x hx => h.1 x (he.subset hx), h.2.sublist (he.map _)⟩

theorem sound_mset (hi : Inv O F0 w0 M F s.env s.mem a w) {j : Nat} {kk : KK} {es es' : List (DV × DV)} (hg : mget s.mem j = some (.mp kk es)) {r : Nat} (hM : M j = some (.map (some r))) {arr arr' : Array MapEntry} {clk clk' : Nat} (hheap : w.heap[r]? = some (.map arr clk))
    (hall : EntsOK F w kk es' arr' clk') {nx : Next} (hnx : ∃ v, nx = .value v ∨ nx = .skip) (hrun : (execOp a.eval o).run P w = .ok nx { w with heap := w.heap.setIfInBounds r (.map arr' clk') }) (hd : o.dst = none)
    (hK : kS ⟨s.env, E.mset j (.mp kk es') s.mem⟩ K) : o.wp P a w (Gd O F0 w0 K) Q := by
  have hF := (hi.mm j _ hg).block hM rfl
  have hset := heap_set (o' := .map arr' clk') hheap
  have hkp : Keeps F w F { w with heap := w.heap.setIfInBounds r (.map arr' clk') } := hi.keeps (X := fun b => b = r) (fun b _ hb => hset.2 b hb) (fun b o hb => hb ▸ hF.2.1 o)
  have hi' : Inv O F0 w0 M F s.env (E.mset j (.mp kk es') s.mem) a { w with heap := w.heap.setIfInBounds r (.map arr' clk') } := by
    refine hi.mset hg hM rfl hset.2 (by simp) rfl rfl rfl ?_
    exact ⟨_, hM, r, arr', clk', rfl, hF.1, hF.2.1, hset.1, hall.1.mono fun _ _ => EntOK.mono hkp, hall.2⟩
  obtain ⟨v, hnx⟩ := hnx
  unfold Oper.wp
  rw [hrun]
  rcases hnx with rfl | rfl
  · show Gd O F0 w0 K (a.put o.dst v) _
    rw [hd]
    exact ⟨_, M, F, hi', hK⟩
  · show Gd O F0 w0 K (a.put o.dst undef) _
    rw [hd]
    exact ⟨_, M, F, hi', hK⟩

theorem modify_mid {α : Type} (f : α → α) (b : α) (b2 : List α) : ∀ b1 : List α, (b1 ++ b :: b2).modify b1.length f = b1 ++ f b :: b2
  | [] => rfl
  | x :: b1 => by
    rw [List.cons_append, List.length_cons, List.modify_succ_cons, modify_mid f b b2 b1, List.cons_append]
theorem sound_mput (hi : Inv O F0 w0 M F s.env s.mem a w) {t : TypeId} {x i y : Operand} {ax ai ay : AX} {kk : KK} {z : DV} (ho : o.op = .mapUpdate t x i y) (hm : mapKK P t = some (kk, z)) (hx : trX x = some ax) (hk : trX i = some ai) (hy : trX y = some ay)
    (hd : o.dst = none) (hK : kMput kk (ev s.env ax) (ev s.env ai) (ev s.env ay) s K) : o.wp P a w (Gd O F0 w0 K) Q := by
  have h1 := trX_ok hx hi
  have h2 := trX_ok hk hi
  have h3 := trX_ok hy hi
  obtain ⟨k, e, hu, hkk, hz⟩ := mapKK_ok hm
  cases hdx : ev s.env ax <;> rw [hdx] at hK h1 <;> first | exact hK.elim | skip
  rename_i j
  simp only [kMput] at hK
  cases hg : mget s.mem j with
  | none => rw [hg] at hK; exact hK.elim
  | some blk =>
    rw [hg] at hK
    cases blk with
    | box cs => exact hK.elim
    | vec e' s' xs => exact hK.elim
    | mp kk' es =>
      obtain ⟨rfl, hkey, hfz, hcell, hK⟩ := hK
      obtain ⟨r, arr, clk, e1, hM, hN, hF, hheap, hall⟩ := hi.mapAt hg h1
      have h2' : RF F w (ev s.env ai) (a.eval i) := by
        have hf : isFz (ev s.env ai) = true := by
          cases kk' <;> cases hq : ev s.env ai <;> rw [hq] at hkey <;> first | rfl | (simp [isKey, isPl] at hkey)
        exact (RV_fz hf).1 h2
      have hone := (cellOK_one hcell h3).1
      have h3' : RF F w (ev s.env ay) (a.eval y) := (RV_fz hfz).1 h3
      obtain ⟨hc, res, hf, hfound⟩ := find_ok hkk hkey h2' hall.1
      have hobj := MapKept.run_getObj_map (P := P) hheap
      rcases hfound with ⟨rfl, hno⟩ | ⟨l1, p, l2, en, rfl, hl1, hp, harr, rfl⟩
      · rw [mpPut_none hno] at hK
        refine sound_mset hi hg hM hheap (arr' := arr.push { key := a.eval i, val := a.eval y, born := clk }) (clk' := clk + 1) ?_ ⟨undef, .inr rfl⟩ ?_ hd hK
        · refine ⟨?_, stamps_push hall.2⟩
          rw [Array.toList_push]
          exact hall.1.append (All2.cons ⟨hkey, h2', h3', hone⟩ All2.nil)
        · unfold execOp
          rw [ho]
          refine run_u ?_
          rw [e1]
          simp [Instr.mapUpdate, run_underlying hu, hobj, hc, hf, MapKept.run_setObj_map _ hheap, Result.andThen]
      · rw [mpPut_some hp hl1] at hK
        obtain ⟨b1, b, b2, harr2, hlen, g1, g2, g3⟩ := All2.splitAt hall.1
        have hb : b = en := by
          rw [harr2, ← hlen] at harr
          simpa using harr
        subst hb
        have harr' : arr[l1.length]? = some b := by simpa using harr
        have hstay := stays_ok hkk hkey g2.1 h2' g2.2.1 hp (P := P)
        refine sound_mset hi hg hM hheap (arr' := arr.modify l1.length fun e => { e with key := a.eval i, val := a.eval y }) (clk' := clk) ?_ ⟨undef, .inr rfl⟩ ?_ hd hK
        · have : (arr.modify l1.length fun e => { e with key := a.eval i, val := a.eval y }).toList = b1 ++ { b with key := a.eval i, val := a.eval y } :: b2 := by
            rw [Array.toList_modify, harr2, ← hlen]
            exact modify_mid _ _ _ _
          refine ⟨?_, stamps_list hall.2 ?_⟩
          · rw [this]
            exact g1.append (All2.cons ⟨hkey, h2', h3', hone⟩ g3)
          · rw [this, harr2]
            simp
        · unfold execOp
          rw [ho]
          refine run_u ?_
          rw [e1]
          simp [Instr.mapUpdate, run_underlying hu, hobj, hc, hf, MapKept.run_setObj_map _ hheap, Result.andThen, harr', hstay]

theorem sound_mrm (hi : Inv O F0 w0 M F s.env s.mem a w) {t t2 : TypeId} {x i : Operand} {ax ai : AX} {kk : KK} {z : DV} (ho : o.op = .call { callee := .builtin .delete, args := #[x, i], argTypes := #[t, t2] }) (hm : mapKK P t = some (kk, z)) (hx : trX x = some ax) (hk : trX i = some ai)
    (hd : o.dst = none) (hK : kMrm kk (ev s.env ax) (ev s.env ai) s K) : o.wp P a w (Gd O F0 w0 K) Q := by
  have h1 := trX_ok hx hi
  have h2 := trX_ok hk hi
  obtain ⟨k, e, hu, hkk, hz⟩ := mapKK_ok hm
  cases hdx : ev s.env ax <;> rw [hdx] at hK h1 <;> first | exact hK.elim | skip
  rename_i j
  simp only [kMrm] at hK
  cases hg : mget s.mem j with
  | none => rw [hg] at hK; exact hK.elim
  | some blk =>
    rw [hg] at hK
    cases blk with
    | box cs => exact hK.elim
    | vec e' s' xs => exact hK.elim
    | mp kk' es =>
      obtain ⟨rfl, hkey, hK⟩ := hK
      obtain ⟨r, arr, clk, e1, hM, hN, hF, hheap, hall⟩ := hi.mapAt hg h1
      have h2' : RF F w (ev s.env ai) (a.eval i) := by
        have hf : isFz (ev s.env ai) = true := by
          cases kk' <;> cases hq : ev s.env ai <;> rw [hq] at hkey <;> first | rfl | (simp [isKey, isPl] at hkey)
        exact (RV_fz hf).1 h2
      obtain ⟨hc, res, hf, hfound⟩ := find_ok hkk hkey h2' hall.1
      have hobj := MapKept.run_getObj_map (P := P) hheap
      rcases hfound with ⟨rfl, hno⟩ | ⟨l1, p, l2, en, rfl, hl1, hp, harr, rfl⟩
      · rw [mpRem_none hno] at hK
        refine sound_mset hi hg hM hheap (arr' := arr) (clk' := clk) hall ⟨.tuple #[], .inl rfl⟩ ?_ hd hK
        refine run_builtin ho ?_
        simp [Builtin.delete_, builtin, e1, run_underlying hu, hobj, hc, hf, MapKept.run_setObj_map _ hheap, Result.andThen]
      · rw [mpRem_some hp hl1] at hK
        obtain ⟨b1, b, b2, harr2, hlen, g1, g2, g3⟩ := All2.splitAt hall.1
        refine sound_mset hi hg hM hheap (arr' := arr.eraseIdxIfInBounds l1.length) (clk' := clk) ?_ ⟨.tuple #[], .inl rfl⟩ ?_ hd hK
        · have : (arr.eraseIdxIfInBounds l1.length).toList = b1 ++ b2 := by
            rw [Array.toList_eraseIdxIfInBounds, harr2, ← hlen]
            simp [List.eraseIdx_append_of_length_le]
          refine ⟨?_, stamps_sub hall.2 ?_⟩
          · rw [this]
            exact g1.append g3
          · rw [this, harr2]
            simp
        · refine run_builtin ho ?_
          simp [Builtin.delete_, builtin, e1, run_underlying hu, hobj, hc, hf, MapKept.run_setObj_map _ hheap, Result.andThen]
theorem sound_nck (hi : Inv O F0 w0 M F s.env s.mem a w) {x : Operand} {ax : AX} (ho : o.op = .nilCheck x) (hx : trX x = some ax) (hK : kNck (ev s.env ax) (kPut o.dst s K)) : o.wp P a w (Gd O F0 w0 K) Q := by
  have h1 := trX_ok hx hi
  have fin : ∀ p, a.eval x = .pointer (some p) → kPut o.dst s K (ev s.env ax) → o.wp P a w (Gd O F0 w0 K) Q := by
    intro p e hK
    refine wp_put (v := a.eval x) ?_ hi h1 hK
    unfold execOp
    rw [ho]
    simp [e]
  cases hd : ev s.env ax <;> rw [hd] at hK h1 <;> first | exact hK.elim | skip
  · rw [hd] at fin
    have h1 : RF F w _ _ := h1
    rw [RF] at h1
    obtain ⟨b, off, e, _⟩ := h1
    exact fin _ e hK
  · rw [hd] at fin
    obtain ⟨b, _, e⟩ := (show RVc M F w (.ml _ _) _ from h1)
    exact fin _ e hK
  · rw [hd] at fin
    obtain ⟨b, n, c, _, e⟩ := (show RVc M F w (.ve _ _ _ _) _ from h1)
    exact fin _ e hK
theorem sound_mks (hi : Inv O F0 w0 M F s.env s.mem a w) {t e : TypeId} {i : TypeInfo} {zs : List DV} {x y : Operand} {ax ay : AX} (ho : o.op = .makeSlice t x y) (ht : P.underlying t = some (.slice e)) (hinf : P.info? e = some i) (hz : zeroT P e = some zs)
    (hx : trX x = some ax) (hy : trX y = some ay) (hK : kMks e i.size i.bytes (ev s.env ax) (ev s.env ay) o.dst s K) : o.wp P a w (Gd O F0 w0 K) Q := by
  have h1 := trX_ok hx hi
  have h2 := trX_ok hy hi
  cases hd1 : ev s.env ax <;> rw [hd1] at hK h1 <;> first | exact hK.elim | skip
  rename_i kl l
  cases hd2 : ev s.env ay <;> rw [hd2] at hK h2 <;> first | exact hK.elim | skip
  rename_i kc c
  obtain ⟨rfl, hc0, hc1, hb, hK⟩ := hK
  obtain ⟨n, rfl⟩ := Int.eq_ofNat_of_zero_le hc0
  have hn : n ≤ maxLen := by simp only [maxLen]; omega
  have hb' : i.bytes * n ≤ 281474976710656 := by
    have : ((i.bytes * n : Nat) : Int) ≤ 281474976710656 := by rw [Int.natCast_mul]; exact hb
    omega
  have hzz : ∃ z, i.zero = some z := by
    unfold zeroT at hz
    rw [hinf] at hz
    simp only at hz
    cases hiz : i.zero with
    | none => rw [hiz] at hz; cases hz
    | some z => exact ⟨z, rfl⟩
  obtain ⟨z, hzz⟩ := hzz
  have hrun : (execOp a.eval o).run P w = .ok (.value (.slice (some ⟨w.heap.size, 0, none⟩) 0 n)) (w.alloc (.cells (madeCells z.cells (n * i.size)) e)) := by
    unfold execOp
    rw [ho]
    refine run_v ?_
    rw [RV_int h1, RV_int h2]
    have := run_make (P := P) w t e i z ht hinf hzz kl kc 0 n (Int.le_refl _) (by omega) (by rw [← Int.natCast_mul]; omega) (by omega)
    simpa using this
  cases hdst : o.dst with
  | none => rw [hdst] at hK; exact hK.elim
  | some d =>
    rw [hdst] at hK
    have hK : kBind (some d) s K (.ow d) (.vec e i.size []) := hK
    refine wp_bind (u := .slice (some ⟨w.heap.size, 0, none⟩) 0 n) (blk := .vec e i.size []) (d := .ow d) hrun (hi.alloc _) ?_ ?_ ?_ (by rw [hdst]; exact hK)
    · intro k
      refine ⟨.slice (some ⟨w.heap.size, 0, none⟩) 0 n, by simp [upd], by simp, ?_⟩
      by_cases h0 : n = 0
      · subst h0
        exact .inl ⟨rfl, _, rfl⟩
      · exact .inr ⟨w.heap.size, n, _, rfl, by omega, .inl hi.grow.size, fun o ho => Nat.lt_irrefl _ (hi.grow.fwf _ o ho), heap_alloc_new w _, by simp, hn, size_madeCells _ _, by simp, by simp [All2]⟩
    · intro k j blk' v b _ e1 e2 e3 e4
      simp only [hblk] at e4
      split at e4
      · cases e4
      · simp only [Option.some.injEq] at e4
        exact hi.fresh e1 e2 e3 e4.symm
    · intro k hk
      rw [hdst] at hk
      cases hk
      exact mk_ow (by simp [upd])
end
end Go.Proofs.YtcolebkklojccaaGreat.E
