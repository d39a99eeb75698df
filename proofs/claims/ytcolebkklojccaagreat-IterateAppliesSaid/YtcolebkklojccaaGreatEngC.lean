/-
  The engine, part C: what the activation owns is frozen.
-/
import Derived.Test.YtcolebkklojccaaGreatEngB
set_option linter.unusedVariables false
set_option linter.unusedSimpArgs false
namespace Go.Proofs.YtcolebkklojccaaGreat.E
open Go

def mkAgg (cs : List DV) : DV := if cs.all isFz then .agg cs else .aggm cs
/-- the handle k becomes what its block holds -/
def fzc (k : Nat) (blk : Blk) : DV → DV
  | .any => .any | .bool b => .bool b | .int j n => .int j n | .str s => .str s | .agg cs => .agg cs | .tup vs => .tup vs | .sl sz xs => .sl sz xs
  | .pf cs => .pf cs | .e0 => .e0 | .fn f cap => .fn f cap | .nilp => .nilp | .nilfn => .nilfn | .nili => .nili | .ifc t v => .ifc t v | .aggm cs => .aggm cs
  | .ml j o => if j = k then (match blk with | .box cs => .pf (cs.drop o) | .vec _ _ _ => .any | .mp _ _ => .any) else .ml j o
  | .ve j sz i o => if j = k then (match blk with | .vec _ s xs => if s = sz then .pf ((xs.getD i []).drop o) else .any | .box _ => .any | .mp _ _ => .any) else .ve j sz i o
  | .ow j => if j = k then (match blk with | .vec _ s xs => .sl s xs | .box _ => .any | .mp _ _ => .any) else .ow j
def fze (k : Nat) (blk : Blk) : DV → DV
  | .any => .any | .bool b => .bool b | .int j n => .int j n | .str s => .str s | .agg cs => .agg cs | .tup vs => .tup vs | .sl sz xs => .sl sz xs
  | .pf cs => .pf cs | .e0 => .e0 | .fn f cap => .fn f cap | .nilp => .nilp | .nilfn => .nilfn | .nili => .nili | .ifc t v => .ifc t v
  | .aggm cs => mkAgg (cs.map (fzc k blk))
  | .ml j o => fzc k blk (.ml j o)
  | .ve j sz i o => fzc k blk (.ve j sz i o)
  | .ow j => fzc k blk (.ow j)
def fzb (k : Nat) (blk : Blk) : Blk → Blk
  | .box cells => .box (cells.map (fzc k blk))
  | .vec e sz xs => .vec e sz xs
  | .mp kk es => .mp kk es
def blkFz : Blk → Bool
  | .box cells => cells.all isFz
  | .vec _ _ _ => true
  | .mp _ _ => false

theorem oneCell_of_fz {F : Frz} {w : World} {d : DV} {v : Value} (h : RF F w d v) : (match d with | .any | .agg _ | .tup _ => true | _ => v.oneCell') = true := by
  cases d <;> simp only [RF] at h <;> first | rfl | (obtain ⟨rfl, _⟩ := h; rfl) | (subst h; rfl) | (obtain ⟨A, cap, rfl, _⟩ := h; rfl) | (obtain ⟨b, off, rfl, _⟩ := h; rfl) | (obtain ⟨A, rfl⟩ := h; rfl) | (obtain ⟨A, rfl, _⟩ := h; rfl)

section
variable {O : Nat → Prop} {F0 : Frz} {w0 : World} {M : Hnd} {F : Frz} {env : List DV} {mem : Mem} {a : Act} {w w' : World}

theorem mkAgg_RV {cs : List DV} {arr : Array Value} (h1 : ∀ u ∈ arr.toList, u.oneCell' = true) (h2 : All2 (RVc M F w) cs arr.toList) : RV M F w (mkAgg cs) (.agg arr) := by
  unfold mkAgg
  split
  · rename_i hf
    show RF F w (.agg cs) _
    rw [RF]
    exact ⟨arr, rfl, h1, RFs_iff.2 ((RVcs_fz hf).1 h2)⟩
  · exact ⟨arr, rfl, h1, h2⟩

/-- cells of a block that is known -/
theorem RFC_of_block {F' : Frz} {b : Nat} {arr : Array Value} {t : TypeId} {fr : Nat × Nat} (hb : w.heap[b]? = some (.cells arr t fr)) {cs : List DV} {us : List Value}
    (hus : ∀ (i : Nat) u, us[i]? = some u → arr[i]? = some u) (h1 : ∀ u ∈ us, u.oneCell' = true) (h2 : All2 (RF F' w) cs us) (hF : ∀ o, o < cs.length → F' b o) : RFC F' w cs b 0 := by
  refine RFC.of_get fun i d hi => ?_
  obtain ⟨u, hu, hr⟩ := h2.get i d hi
  have hlt : i < cs.length := (List.getElem?_eq_some_iff.1 hi).1
  refine ⟨u, ?_, ⟨?_, h1 u (List.mem_of_getElem? hu)⟩, hr⟩
  · rw [Nat.zero_add, cell_of_row w b i arr t fr hb]; exact hus i u hu
  · rw [Nat.zero_add]; exact hF i hlt

theorem Inv.fz (h : Inv O F0 w0 M F env mem a w) {k : Nat} {blk : Blk} (hk : mget mem k = some blk) (hf : blkFz blk = true) :
    ∃ F', Inv O F0 w0 M F' (env.map (fze k blk)) (mmap (fzb k blk) (E.mdel k mem)) a w ∧ Keeps F w F' w := by
  obtain ⟨hv, hM⟩ := (h.mm k blk hk).handle
  -- the cells that are frozen
  let n : Nat := match blk with | .box cells => cells.length | .vec _ _ xs => xs.flatten.length | .mp _ _ => 0
  let F' : Frz := fun b o => F b o ∨ (hblk hv = some b ∧ o < n)
  have hkp : Keeps F w F' w := ⟨fun b o x => .inl x, fun _ _ _ => rfl⟩
  -- what the handle reads as
  have hbox : ∀ cells, blk = .box cells → ∀ b, hv = .pointer (some ⟨b, 0, none⟩) → RFC F' w cells b 0 := by
    intro cells e b hb
    subst e
    obtain ⟨b', arr, t, h1, h2, h3, h4, h5, h6⟩ := h.mm k _ hk
    rw [hM] at h1; cases h1; cases hb
    exact RFC_of_block h3 (us := arr.toList) (by simp) h4 (((RVcs_fz hf).1 h5).mono fun _ _ => RF.mono hkp _ _) fun o ho => .inr ⟨rfl, ho⟩
  have hvec : ∀ e sz xs, blk = .vec e sz xs → (∀ x ∈ xs, x.length = sz) ∧ ((xs = [] ∧ ∃ A, hv = .slice A 0 0) ∨ ∃ b cap, hv = .slice (some ⟨b, 0, none⟩) xs.length cap ∧ 0 < cap ∧ xs.length ≤ cap ∧ cap ≤ maxLen ∧ RFE F' w xs sz b 0) := by
    intro e sz xs eb
    subst eb
    obtain ⟨v, h1, hs, h2⟩ := h.mm k _ hk
    rw [hM] at h1; cases h1
    refine ⟨hs, ?_⟩
    rcases h2 with h2 | ⟨g, cap, cur, e1, hc, _, _, h3, h4, h5, _, ho, h6⟩
    · exact .inl h2
    · refine .inr ⟨g, cap, e1, hc, h4, h5, RFE.of_flat hs ?_⟩
      refine RFC_of_block h3 (us := cur.toList.take (xs.length * sz)) ?_ ho (h6.mono fun _ _ => RF.mono hkp _ _) fun o hlt => .inr ⟨by rw [e1]; simp only [hblk, if_neg (Nat.pos_iff_ne_zero.1 hc)], hlt⟩
      intro i u hi
      rw [List.getElem?_take] at hi
      split at hi
      · simpa using hi
      · cases hi
  -- every value
  have key : ∀ d v, RVc M F w d v → RVc M F' w (fzc k blk d) v := by
    intro d v hd
    cases d <;> try exact RVc.mono hkp hd
    · rename_i j o
      simp only [fzc]
      split
      · rename_i e; subst e
        obtain ⟨b, h1, h2⟩ := hd
        rw [hM] at h1; cases h1
        cases blk with
        | box cells =>
          show RF F' w (.pf _) v
          rw [RF]
          refine ⟨b, o, h2, ?_⟩
          have := (hbox cells rfl b rfl).drop o
          rwa [Nat.zero_add] at this
        | vec e sz xs => exact RVc_any
        | mp kk es => exact RVc_any
      · exact hd
    · rename_i j sz i o
      simp only [fzc]
      split
      · rename_i e; subst e
        obtain ⟨b, n', c, h1, h2⟩ := hd
        rw [hM] at h1; cases h1
        cases blk with
        | box cells => exact RVc_any
        | vec e s xs =>
          simp only
          split
          · rename_i e2; subst e2
            show RF F' w (.pf _) v
            rw [RF]
            refine ⟨b, i * s + o, h2, ?_⟩
            rcases (hvec _ _ _ rfl).2 with ⟨e3, _⟩ | ⟨b', cap, e3, _, _, _, h4⟩
            · subst e3; simp only [List.getD_eq_getElem?_getD, List.getElem?_nil, Option.getD_none, List.drop_nil]; rw [RFC]; trivial
            · cases e3
              cases hx : xs[i]? with
              | none => simp only [List.getD, hx, Option.getD_none, List.drop_nil]; rw [RFC]; trivial
              | some x =>
                simp only [List.getD, hx, Option.getD_some]
                have := ((h4.get i x hx).2).drop o
                rwa [Nat.zero_add] at this
          · exact RVc_any
        | mp kk es => exact RVc_any
      · exact hd
    · rename_i j
      simp only [fzc]
      split
      · rename_i e; subst e
        obtain ⟨h1, h2⟩ := hd
        rw [hM] at h1; cases h1
        cases blk with
        | box cells => exact RVc_any
        | vec e s xs =>
          show RF F' w (.sl _ _) _
          rw [RF]
          rcases (hvec _ _ _ rfl).2 with ⟨e4, A, e3⟩ | ⟨b', cap, e3, _, h5, h6, h4⟩
          · subst e4; exact ⟨A, 0, e3, Nat.le_refl _, Nat.zero_le _, fun _ => rfl, .inl rfl⟩
          · exact ⟨some ⟨b', 0, none⟩, cap, e3, h5, h6, (fun hh => by cases hh), .inr ⟨b', 0, rfl, h4⟩⟩
        | mp kk es => exact RVc_any
      · exact hd
  have keyE : ∀ d v, RV M F w d v → RV M F' w (fze k blk d) v := by
    intro d v hd
    cases d with
    | aggm cs =>
      obtain ⟨arr, e, h1, h2⟩ := hd
      subst e
      exact mkAgg_RV h1 (h2.map _ key)
    | ml j o => exact RV_RVc (key (.ml j o) v hd)
    | ve j sz i o => exact RV_RVc (key (.ve j sz i o) v hd)
    | ow j => exact RV_RVc (key (.ow j) v hd)
    | _ => exact RV.mono hkp hd
  have hmem : ∀ j blk', mget (mmap (fzb k blk) (E.mdel k mem)) j = some blk' → j ≠ k ∧ ∃ b0, mget mem j = some b0 ∧ blk' = fzb k blk b0 := by
    intro j blk' hj
    rw [mget_mmap, mget_mdel] at hj
    by_cases e : j = k
    · rw [if_pos e] at hj; cases hj
    · rw [if_neg e] at hj
      cases hm : mget mem j with
      | none => simp [hm] at hj
      | some b0 => simp [hm] at hj; exact ⟨e, b0, rfl, hj.symm⟩
  refine ⟨F', ⟨h.dl, h.ev.map _ keyE, ?_, ?_, ⟨fun b o x => .inl (h.grow.sub b o x), ?_, ?_, h.grow.size, h.grow.block, h.grow.os, h.grow.tape, h.grow.output⟩⟩, hkp⟩
  · intro j blk' hj
    obtain ⟨hne, b0, h0, rfl⟩ := hmem j blk' hj
    have hb := h.mm j b0 h0
    have hnf : ∀ v b, M j = some v → hblk v = some b → ∀ o, ¬ F' b o := by
      intro v b h1 h2 o h3
      rcases h3 with h3 | ⟨h3, _⟩
      · exact (hb.block h1 h2).2.1 o h3
      · exact hne (h.dis j k b0 blk v hv b h0 hk h1 hM h2 h3)
    cases b0 with
    | box cells =>
      obtain ⟨b, arr, t, h1, h2, h3, h4, h5, h6⟩ := hb
      exact ⟨b, arr, t, h1, h2, h3, h4, h5.map _ key, hnf _ b h1 rfl⟩
    | vec e sz xs =>
      obtain ⟨v, h1, h2, h3⟩ := hb
      refine ⟨v, h1, h2, ?_⟩
      rcases h3 with h3 | ⟨g, cap, cur, e1, hc, g1, g2, g3, g4, g5, g6, g7, g8⟩
      · exact .inl h3
      · exact .inr ⟨g, cap, cur, e1, hc, g1, hnf v g h1 (by rw [e1]; simp only [hblk, if_neg (Nat.pos_iff_ne_zero.1 hc)]), g3, g4, g5, g6, g7, g8.mono fun _ _ => RF.mono hkp _ _⟩
    | mp kk es =>
      obtain ⟨v, h1, r, arr, clk, e1, g1, g2, g3, g4⟩ := hb
      exact ⟨v, h1, r, arr, clk, e1, g1, hnf v r h1 (by rw [e1]; rfl), g3, g4.1.mono fun _ _ => EntOK.mono hkp, g4.2⟩
  · intro j j' blk1 blk2 v v' b h1 h2 hv1 hv2 hb1 hb2
    obtain ⟨_, b0, h0, _⟩ := hmem j blk1 h1
    obtain ⟨_, b0', h0', _⟩ := hmem j' blk2 h2
    exact h.dis j j' b0 b0' v v' b h0 h0' hv1 hv2 hb1 hb2
  · intro b o hx
    rcases hx with hx | ⟨hx, _⟩
    · exact h.grow.new b o hx
    · rcases ((h.mm k blk hk).block hM hx).1 with h1 | h1
      · exact .inr (.inl h1)
      · exact .inr (.inr h1)
  · intro b o hx
    rcases hx with hx | ⟨hx, _⟩
    · exact h.grow.fwf b o hx
    · exact ((h.mm k blk hk).block hM hx).2.2
end
end Go.Proofs.YtcolebkklojccaaGreat.E
