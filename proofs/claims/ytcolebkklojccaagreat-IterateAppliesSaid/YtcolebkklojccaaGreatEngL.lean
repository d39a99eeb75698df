/-
  The engine, part L: what is owned is written, grows, is handed on; calls.
-/
import Derived.Test.YtcolebkklojccaaGreatEngK
import Derived.Maps.AppendAt
set_option linter.unusedVariables false
set_option linter.unusedSimpArgs false
set_option linter.unusedSimpArgs false
namespace Go.Proofs.YtcolebkklojccaaGreat.E
open Go

section
variable {P : Program} {O : Nat → Prop} {F0 : Frz} {w0 : World} {M : Hnd} {F : Frz} {a : Act} {w w' : World} {s : DS} {K : DS → Prop} {Q : Exit → Act → World → Prop} {o : Oper}

theorem Inv.keeps {env : List DV} {mem : Mem} (hi : Inv O F0 w0 M F env mem a w) {X : Nat → Prop} (hsame : ∀ b, b < w.heap.size → ¬ X b → w'.heap[b]? = w.heap[b]?) (hX : ∀ b o, X b → ¬ F b o) : Keeps F w F w' :=
  ⟨fun _ _ h => h, fun b o hb => cell_of_block (hsame b (hi.grow.fwf b o hb) fun hx => hX b o hx hb) o⟩
theorem Inv.mset {env : List DV} {mem : Mem} (hi : Inv O F0 w0 M F env mem a w) {k : Nat} {old new : Blk} (hk : mget mem k = some old) {u : Value} {b : Nat} (hM : M k = some u) (hu : hblk u = some b)
    (hsame : ∀ j, j ≠ b → w'.heap[j]? = w.heap[j]?) (hsz : w.heap.size = w'.heap.size) (hos : w'.os = w.os) (htp : w'.tape = w.tape) (hout : w'.output = w.output) (hb : BlkOK M F w' (Nw O w0) k new) : Inv O F0 w0 M F env (E.mset k new mem) a w' := by
  obtain ⟨hN, hF, hlt⟩ := (hi.mm k old hk).block hM hu
  have h2 := (hi.mdel k).world (w' := w') (fun j => j = b) (fun j _ hj => hsame j hj) (Nat.le_of_eq hsz) hos htp hout (fun j o hj => hj ▸ hF o) (fun j blk v c h1 h2 h3 h4 => by
    rw [mget_mdel] at h1
    split at h1
    · cases h1
    · rename_i hne
      subst h4
      exact hne (hi.dis j k blk old v u c h1 hk h2 hM h3 hu)) (fun j hj => hj ▸ hN)
  have key : ∀ j blk, mget (E.mset k new mem) j = some blk → (j = k ∧ blk = new) ∨ (j ≠ k ∧ mget mem j = some blk) := by
    intro j blk hj
    rw [mget_mset hk] at hj
    split at hj
    · rename_i e; cases hj; exact .inl ⟨e, rfl⟩
    · rename_i e; exact .inr ⟨e, hj⟩
  refine ⟨h2.dl, h2.ev, fun j blk hj => ?_, ?_, h2.grow⟩
  · rcases key j blk hj with ⟨rfl, rfl⟩ | ⟨hne, h0⟩
    · exact hb
    · exact h2.mm j blk (by rw [mget_mdel, if_neg hne]; exact h0)
  · intro j j' blk1 blk2 v v' c h1 h1' hv hv' hb1 hb2
    have g : ∀ j blk, mget (E.mset k new mem) j = some blk → ∃ blk0, mget mem j = some blk0 := by
      intro j blk hj
      rcases key j blk hj with ⟨rfl, _⟩ | ⟨_, h0⟩
      · exact ⟨_, hk⟩
      · exact ⟨_, h0⟩
    obtain ⟨b1, e1⟩ := g j blk1 h1
    obtain ⟨b2, e2⟩ := g j' blk2 h1'
    exact hi.dis j j' b1 b2 v v' c e1 e2 hv hv' hb1 hb2

theorem setRow_same (w : World) (b : Nat) (cs : Array Value) : ∀ j, j ≠ b → (w.setRow b cs).heap[j]? = w.heap[j]? := fun j hj => setRow_other w b j cs hj

theorem sound_sto (hi : Inv O F0 w0 M F s.env s.mem a w) {t : TypeId} {p x : Operand} {n : Nat} {ap ax : AX} (ho : o.op = .store t p x) (hn : szT P t = some n) (hp : trX p = some ap) (hx : trX x = some ax)
    (hK : kSt n (ev s.env ap) (ev s.env ax) s K) (hd : o.dst = none) : o.wp P a w (Gd O F0 w0 K) Q := by
  have h1 := trX_ok hp hi
  have h2 := trX_ok hx hi
  have run : ∀ {b off : Nat} {arr : Array Value} {t' : TypeId}, a.eval p = .pointer (some ⟨b, off, none⟩) → w.heap[b]? = some (.cells arr t' (0, 0)) → (a.eval x).cells.toList.length = n → off + n ≤ arr.size → (∀ u ∈ (a.eval x).cells.toList, u.oneCell' = true) →
      (execOp a.eval o).run P w = .ok .skip (w.setRow b (arr.toList.take off ++ (a.eval x).cells.toList ++ arr.toList.drop (off + (a.eval x).cells.toList.length)).toArray) := by
    intro b off arr t' e1 e2 e3 e4 e5
    unfold execOp
    rw [ho]
    refine run_u ?_
    have e3' : (a.eval x).cells.size = n := by simpa using e3
    simp only [Instr.storeAt, e1, Instr.sureAddr, Sem.run_bind, Sem.run_pure, Result.andThen_ok, storeVar, run_sizeOf hn]
    rw [if_neg (by simpa using e3')]
    have := run_storeCells_at P b off t' (a.eval x).cells.toList 0 arr w e2 (by rw [e3]; simpa using e4) e5
    simpa using this
  have fin : ∀ {w' : World} {s' : DS}, (execOp a.eval o).run P w = .ok .skip w' → Inv O F0 w0 M F s'.env s'.mem a w' → K s' → o.wp P a w (Gd O F0 w0 K) Q := by
    intro w' s' hr hi' hk
    unfold Oper.wp
    rw [hr]
    show Gd O F0 w0 K (a.put o.dst undef) w'
    rw [hd]
    exact ⟨s', M, F, hi', hk⟩
  cases hd1 : ev s.env ap <;> rw [hd1] at hK h1 <;> first | exact hK.elim | skip
  · rename_i k off
    simp only [kSt] at hK
    cases hm : mget s.mem k with
    | none => rw [hm] at hK; exact hK.elim
    | some blk =>
      rw [hm] at hK
      cases blk with
      | vec e' s' xs => exact hK.elim
      | mp kk es => exact hK.elim
      | box cs =>
        obtain ⟨new, r1, r2, r3, r4, r5⟩ := cellsK_ok h2 hK
        obtain ⟨b, arr, t', g1, g2, g3, g4, g5⟩ := hi.box hm h1
        have hlen : (a.eval x).cells.toList.length = n := by rw [r1.length, r3]
        have hcs : arr.size = cs.length := by rw [← g5.length]; simp
        have hF := ((hi.mm k _ hm).block g1 rfl)
        refine fin (s' := ⟨s.env, E.mset k (.box (seg cs off new)) s.mem⟩) (run g2 g3 hlen (by omega) r2) ?_ r5
        have hkp := hi.keeps (X := fun j => j = b) (w' := w.setRow b (arr.toList.take off ++ (a.eval x).cells.toList ++ arr.toList.drop (off + (a.eval x).cells.toList.length)).toArray) (fun j _ hj => setRow_same w b _ j hj) (fun j o hj => hj ▸ hF.2.1 o)
        refine hi.mset hm g1 rfl (setRow_same w b _) (by simp) rfl rfl rfl ?_
        exact ⟨b, _, t', g1, hF.1, setRow_heap w b arr _ t' _ g3, by simpa using one_seg g4 r2 _ _, by simpa using (g5.mono fun _ _ => RVc.mono hkp).seg (r1.mono fun _ _ => RVc.mono hkp) off, hF.2.1⟩
  · rename_i k sz i off
    simp only [kSt] at hK
    cases hm : mget s.mem k with
    | none => rw [hm] at hK; exact hK.elim
    | some blk =>
      rw [hm] at hK
      cases blk with
      | box cs => exact hK.elim
      | mp kk es => exact hK.elim
      | vec e' s' xs =>
        obtain ⟨new, r1, r2, r3, r4, r5, r6, r7, r8⟩ := cellsK_ok h2 hK
        subst r4
        obtain ⟨b, n', c, g1, g2⟩ := (show RVc M F w (.ve k s' i off) _ from h1)
        obtain ⟨u, g3, g4, hown⟩ := hi.mm k _ hm
        rw [g1] at g3; cases g3
        rcases hown with ⟨e1, _⟩ | ⟨g, cap, cur, e1, hc0, hN, hnF, q1, q2, q3, q4, ho1, g5⟩
        · subst e1; simp at r5
        · cases e1
          have hblkb : hblk (.slice (some ⟨b, 0, none⟩) xs.length c) = some b := by simp only [hblk, if_neg (Nat.pos_iff_ne_zero.1 hc0)]
          have hlen : (a.eval x).cells.toList.length = n := by rw [r1.length, r3]
          have hlt : i * s' + s' ≤ xs.length * s' := by
            have : (i + 1) * s' ≤ xs.length * s' := Nat.mul_le_mul_right _ (by omega)
            rw [Nat.add_mul] at this; omega
          have hcap : xs.length * s' ≤ c * s' := Nat.mul_le_mul_right _ q2
          refine fin (s' := ⟨s.env, E.mset k (.vec e' s' (xs.set i (seg (xs.getD i []) off new))) s.mem⟩) (run g2 q1 hlen (by omega) r2) ?_ r8
          have hkp := hi.keeps (X := fun j => j = b) (w' := w.setRow b (cur.toList.take (i * s' + off) ++ (a.eval x).cells.toList ++ cur.toList.drop (i * s' + off + (a.eval x).cells.toList.length)).toArray) (fun j _ hj => setRow_same w b _ j hj) (fun j o hj => hj ▸ hnF o)
          refine hi.mset hm g1 hblkb (setRow_same w b _) (by simp) rfl rfl rfl ?_
          have hx : xs[i]? = some xs[i] := List.getElem?_eq_getElem r5
          have hgd : xs.getD i [] = xs[i] := by simp [List.getD, hx]
          have hxl : (xs.getD i []).length = s' := by rw [hgd]; exact g4 _ (List.getElem_mem r5)
          have hseglen : (seg (xs.getD i []) off new).length = s' := by unfold seg; rw [seg_length _ _ _ (by omega)]; exact hxl
          -- the elements' cells with the new ones laid over
          have hflat : (xs.set i (seg (xs.getD i []) off new)).flatten = seg xs.flatten (i * s' + off) new := by
            rw [flat_set i _ g4 r5 hseglen]
            have hd2 := flat_drop i g4
            have hgx : (xs.flatten.drop (i * s')).take s' = xs[i] := by
              rw [hd2, List.drop_eq_getElem_cons r5, List.flatten_cons]
              rw [List.take_append, List.take_of_length_le (by rw [g4 _ (List.getElem_mem r5)]; exact Nat.le_refl _), g4 _ (List.getElem_mem r5)]
              simp
            have hfl := flat_length g4
            rw [hgd] at hxl hseglen ⊢
            unfold seg at hseglen ⊢
            rw [hseglen]
            have e1 : xs.flatten.take (i * s' + off) = xs.flatten.take (i * s') ++ xs[i].take off := by
              rw [List.take_add, ← hgx, List.take_take, Nat.min_eq_left (by omega)]
            have e2 : xs.flatten.drop (i * s' + off + new.length) = xs[i].drop (off + new.length) ++ xs.flatten.drop (i * s' + s') := by
              have : xs.flatten.drop (i * s' + off + new.length) = (xs.flatten.drop (i * s')).drop (off + new.length) := by rw [List.drop_drop]; congr 1; omega
              rw [this]
              have h3 : xs.flatten.drop (i * s') = xs[i] ++ xs.flatten.drop (i * s' + s') := by
                rw [← hgx, ← List.drop_drop, List.take_append_drop]
              rw [h3, List.drop_append]
              congr 1
              rw [show off + new.length - xs[i].length = 0 from by omega]
              rfl
            rw [e1, e2]
            simp
          have hlen2 : xs.length * s' = (cur.toList.take (xs.length * s')).length := by rw [g5.length, flat_length g4]
          -- what stands in the block's known part behind the store
          have htake : ((cur.toList.take (i * s' + off) ++ (a.eval x).cells.toList ++ cur.toList.drop (i * s' + off + (a.eval x).cells.toList.length)).toArray.toList.take (xs.length * s')) =
              (cur.toList.take (xs.length * s')).take (i * s' + off) ++ (a.eval x).cells.toList ++ (cur.toList.take (xs.length * s')).drop (i * s' + off + (a.eval x).cells.toList.length) := by
            rw [hlen]
            apply List.ext_getElem?
            intro j
            simp only [List.getElem?_take, List.getElem?_append, List.length_take, List.length_append, Array.length_toList, List.getElem?_drop, hlen]
            by_cases hj : j < xs.length * s'
            · rw [if_pos hj]
              have m1 : min (i * s' + off) cur.size = i * s' + off := by rw [q4]; omega
              have m2 : min (i * s' + off) (min (xs.length * s') cur.size) = i * s' + off := by rw [q4]; omega
              rw [m1, m2]
              by_cases c1 : j < i * s' + off
              · simp [c1, hj, show j < i * s' + off + n from by omega]
              · by_cases c2 : j < i * s' + off + n
                · simp [c1, c2]
                · have e : i * s' + off + n + (j - (i * s' + off + n)) = j := by omega
                  simp [c2, e, hj]
            · rw [if_neg hj]
              have m2 : min (i * s' + off) (min (xs.length * s') cur.size) = i * s' + off := by rw [q4]; omega
              rw [m2]
              rw [if_neg (by omega)]
              have e : i * s' + off + n + (j - (i * s' + off + n)) = j := by omega
              rw [e, if_neg hj]
          refine ⟨_, g1, ?_, .inr ⟨b, c, _, by simp, hc0, hN, hnF, setRow_heap w b cur _ e' _ q1, by simpa using q2, q3, ?_, ?_, ?_⟩⟩
          · intro y hy
            rcases List.mem_or_eq_of_mem_set hy with hy | hy
            · exact g4 y hy
            · rw [hy]; exact hseglen
          · simp only [List.size_toArray]
            rw [seg_length _ _ _ (by rw [hlen, Array.length_toList, q4]; omega), Array.length_toList, q4]
          · simp only [List.length_set]
            rw [htake]
            exact one_seg ho1 r2 _ _
          · simp only [List.length_set]
            rw [htake, hflat]
            exact (g5.mono fun _ _ => RF.mono hkp _ _).seg (((RVcs_fz r7).1 r1).mono fun _ _ => RF.mono hkp _ _) (i * s' + off)
end
end Go.Proofs.YtcolebkklojccaaGreat.E
