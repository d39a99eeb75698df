/-
  The engine, part M: append.
-/
import Derived.Test.YtcolebkklojccaaGreatEngL
set_option linter.unusedVariables false
set_option linter.unusedSimpArgs false
set_option linter.unusedSimpArgs false
namespace Go.Proofs.YtcolebkklojccaaGreat.E
open Go

section
variable {P : Program} {O : Nat → Prop} {F0 : Frz} {w0 : World} {M : Hnd} {F : Frz} {a : Act} {w w' : World} {s : DS} {K : DS → Prop} {Q : Exit → Act → World → Prop} {o : Oper}

/-- what a slice's elements' cells are -/
def SrcOK (F : Frz) (w : World) (sz : Nat) (ys : List (List DV)) (B : Option Addr) : Prop :=
  (∀ y ∈ ys, y.length = sz) ∧ (ys = [] ∨ ∃ (b off : Nat) (us : List Value), B = some ⟨b, off, none⟩ ∧ (∀ (i : Nat) u, us[i]? = some u → w.cell? ⟨b, off + i, none⟩ = some u) ∧ (∀ u ∈ us, u.oneCell' = true) ∧ All2 (RF F w) ys.flatten us)
theorem RFC.cells {ds : List DV} {b off : Nat} (h : RFC F w ds b off) : ∃ l : List Value, (∀ (i : Nat) v, l[i]? = some v → w.cell? ⟨b, off + i, none⟩ = some v) ∧ (∀ u ∈ l, u.oneCell' = true) ∧ All2 (RF F w) ds l := by
  induction ds generalizing off with
  | nil => exact ⟨[], by simp, by simp, All2.nil⟩
  | cons c cs ih =>
    rw [RFC] at h
    obtain ⟨⟨u, h1, h2, h3⟩, h4⟩ := h
    obtain ⟨l, hg, ho, hr⟩ := ih h4
    refine ⟨u :: l, ?_, by simpa using ⟨h2.2, ho⟩, All2.cons h3 hr⟩
    intro i v hi
    cases i with
    | zero => simp at hi; subst hi; exact h1
    | succ i =>
      have := hg i v (by simpa using hi)
      have e : off + (i + 1) = off + 1 + i := by omega
      rw [e]; exact this
theorem src_ok (hi : Inv O F0 w0 M F s.env s.mem a w) {sz : Nat} {x : DV} {v : Value} (hv : RV M F w x v) {KK : List (List DV) → Prop} (hK : srcK sz x s.mem KK) :
    ∃ ys B c, v = .slice B ys.length c ∧ SrcOK F w sz ys B ∧ KK ys := by
  cases x <;> first | exact hK.elim | skip
  · rename_i z ys
    obtain ⟨rfl, hk⟩ := hK
    obtain ⟨A, cap, e1, c1, c2, c3, c4⟩ := RV_sl hv
    refine ⟨ys, A, cap, e1, ?_, hk⟩
    rcases c4 with c4 | ⟨b, off, e2, c5⟩
    · subst c4; exact ⟨by simp, .inl rfl⟩
    · obtain ⟨l, l1, l2, l3⟩ := c5.flat.cells
      exact ⟨c5.sizes, .inr ⟨b, off, l, e2, l1, l2, l3⟩⟩
  · obtain ⟨A, e1⟩ := RV_e0 hv
    exact ⟨[], A, 0, e1, ⟨by simp, .inl rfl⟩, hK⟩
  · rename_i k
    simp only [srcK] at hK
    cases hm : mget s.mem k with
    | none => rw [hm] at hK; exact hK.elim
    | some blk =>
      rw [hm] at hK
      cases blk with
      | box cs => exact hK.elim
      | mp kk es => exact hK.elim
      | vec e' s' ys =>
        obtain ⟨rfl, hk⟩ := hK
        obtain ⟨hs, hx⟩ := hi.vec hm hv
        rcases hx with ⟨rfl, A, e1⟩ | ⟨g, cap, cur, e1, _, _, _, h3, h4, h5, h7, ho, h2⟩
        · exact ⟨[], A, 0, e1, ⟨by simp, .inl rfl⟩, hk⟩
        · refine ⟨ys, _, cap, e1, ⟨hs, .inr ⟨g, 0, _, rfl, ?_, ho, h2⟩⟩, hk⟩
          intro i u hi
          rw [Nat.zero_add, cell_of_row w g i cur e' (0, 0) h3]
          rw [List.getElem?_take] at hi
          split at hi
          · simpa using hi
          · cases hi

theorem append_ok {N : Nat → Prop} (hN : ∀ b, w.heap.size ≤ b → N b) (hF : ∀ b o, F b o → b < w.heap.size) {t ty e : TypeId} {i : TypeInfo} {z : Value} (ht : P.underlying t = some (.slice e)) (hinf : P.info? e = some i) (hz : i.zero = some z)
    (hzs : z.cells.size = i.size) (h0 : 0 < i.size) {xs ys : List (List DV)} {v : Value} (hv : VecOK F w N e i.size xs v) {B : Option Addr} {c : Nat} (hsrc : SrcOK F w i.size ys B)
    (h63 : xs.length + ys.length ≤ maxLen) (hbytes : (xs.length + ys.length) * i.bytes ≤ 140737488355328) :
    ∃ v' w', (Builtin.append_ #[t, t] ty #[v, .slice B ys.length c]).run P w = .ok v' w' ∧ VecOK F w' N e i.size (xs ++ ys) v' ∧ (∀ j, hblk v ≠ some j → j < w.heap.size → w'.heap[j]? = w.heap[j]?) ∧ w.heap.size ≤ w'.heap.size ∧
      w'.os = w.os ∧ w'.tape = w.tape ∧ w'.output = w.output ∧ (hblk v' = none ∨ hblk v' = hblk v ∨ hblk v' = some w.heap.size) := by
  have hsm : xs.length + ys.length ≤ 9223372036854775807 := by simp only [maxLen] at h63; omega
  obtain ⟨hys, hsrc⟩ := hsrc
  have hsz : ∀ x ∈ xs ++ ys, x.length = i.size := by
    intro x hx
    rcases List.mem_append.1 hx with hx | hx
    · exact hv.1 x hx
    · exact hys x hx
  by_cases hm : ys = []
  · subst hm
    refine ⟨v, w, ?_, by simpa using hv, fun _ _ _ => rfl, Nat.le_refl _, rfl, rfl, rfl, .inr (.inl rfl)⟩
    have hslice : ∃ A n cap, v = .slice A n cap ∧ n ≤ cap := by
      rcases hv.2 with ⟨_, A, rfl⟩ | ⟨g, cap, cur, rfl, _, _, _, _, h1, _⟩
      · exact ⟨A, 0, 0, rfl, Nat.le_refl _⟩
      · exact ⟨_, _, cap, rfl, h1⟩
    obtain ⟨A, n, cap, rfl, hnc⟩ := hslice
    have hfc : ∀ w : World, (Builtin.firstCells i.size 0 (.slice B 0 c)).run P w = .ok #[] w := by
      intro w
      cases B <;> simp [Builtin.firstCells, loadCells, loadCellsFrom]
    cases A <;> simp [Builtin.append_, run_underlying ht, sizeOf, typeInfo, hinf, Builtin.lenOf, hnc, hfc, storeCells]
  · obtain ⟨b, off, us, rfl, hcells, hone, hall⟩ := hsrc.resolve_left hm
    have hylen : 0 < ys.length := by
      cases ys with
      | nil => exact absurd rfl hm
      | cons _ _ => simp
    have hul : us.length = ys.length * i.size := by rw [hall.length, flat_length hys]
    have hnews : ∀ j v, us[j]? = some v → w.cell? ((⟨b, off, none⟩ : Addr).add j) = some v := fun j v hj => by rw [Addr.add_lit]; exact hcells j v hj
    -- a new row
    have grown : ∀ (old : Nat) (olds : List Value), old < xs.length + ys.length → olds.length = xs.length * i.size → (∀ u ∈ olds, u.oneCell' = true) → All2 (RF F w) xs.flatten olds →
        VecOK F (w.drew.alloc (.cells (olds.toArray ++ us.toArray ++ Builtin.zeroCells z.cells (grownCap w (xs.length + ys.length) old e - (xs.length + ys.length))) e)) N e i.size (xs ++ ys)
          (.slice (some ⟨w.heap.size, 0, none⟩) (xs.length + ys.length) (grownCap w (xs.length + ys.length) old e)) := by
      intro old olds ho hol hone2 hall2
      have hge := grownCap_ge w (xs.length + ys.length) old e
      have hcm := grownCap_le_maxLen w (xs.length + ys.length) old e h63
      have hkp : Keeps F w F (w.drew.alloc (.cells (olds.toArray ++ us.toArray ++ Builtin.zeroCells z.cells (grownCap w (xs.length + ys.length) old e - (xs.length + ys.length))) e)) :=
        ⟨fun _ _ h => h, fun b o hb => cell_of_block (heap_alloc_old w.drew _ (hF b o hb)) o⟩
      have htk : (olds.toArray ++ us.toArray ++ Builtin.zeroCells z.cells (grownCap w (xs.length + ys.length) old e - (xs.length + ys.length))).toList.take ((xs ++ ys).length * i.size) = olds ++ us := by
        have hl : (olds ++ us).length = (xs ++ ys).length * i.size := by rw [List.length_append, List.length_append, hol, hul, Nat.add_mul]
        simp only [Array.toList_append, List.append_assoc]
        rw [← List.append_assoc, ← hl]
        exact List.take_left
      refine ⟨hsz, .inr ⟨w.heap.size, _, _, by rw [List.length_append], by omega, hN _ (Nat.le_refl _), fun o ho => Nat.lt_irrefl _ (hF _ o ho), heap_alloc_new w.drew _, by rw [List.length_append]; exact hge, hcm, ?_, ?_, ?_⟩⟩
      · simp only [Array.size_append, List.size_toArray, size_zeroCells, hzs, hol, hul, ← Nat.add_mul]
        congr 1
        omega
      · rw [htk]
        intro u hu
        rcases List.mem_append.1 hu with hu | hu
        · exact hone2 u hu
        · exact hone u hu
      · rw [htk, List.flatten_append]
        exact (hall2.mono fun _ _ => RF.mono hkp _ _).append (hall.mono fun _ _ => RF.mono hkp _ _)
    have gsame : ∀ (obj : Obj) (j : Nat), j < w.heap.size → (w.drew.alloc obj).heap[j]? = w.heap[j]? := fun obj j hj => heap_alloc_old w.drew _ hj
    rcases hv.2 with ⟨rfl, A, rfl⟩ | ⟨g, cap, cur, rfl, hc0, hNg, hnF, hg, hnc, hcm, hcs, hone1, hall1⟩
    · have hfit : Builtin.nextslicecap (0 + ys.length) 0 * i.bytes ≤ 281474976710656 := growslice_fits (by omega) (by simpa using hbytes)
      have hg0 := grown 0 [] (by simpa using hylen) (by simp) (by simp) All2.nil
      simp only [List.length_nil, Nat.zero_add, List.nil_append] at hg0 hfit ⊢
      cases A with
      | none =>
        have hr := run_append_nil (P := P) w t ty e i z ht hinf hz ⟨b, off, none⟩ ys.length c us hul hnews hylen (by simp at hsm; omega) (by rw [nextslicecap_zero hylen] at hfit; exact hfit)
        refine ⟨_, _, hr, by simpa using hg0, fun j _ hj => gsame _ j hj, by simp, rfl, rfl, rfl, ?_⟩
        simp only [hblk]
        split <;> simp
      | some ad =>
        have hr := run_append_grow (P := P) w t ty e i z ht hinf hz ad 0 0 [] (by simp) (by simp) ⟨b, off, none⟩ ys.length c us hul hnews (by omega) (by simp at hsm; omega) (by rw [Nat.zero_add]; exact hfit)
        simp only [Nat.zero_add] at hr
        refine ⟨_, _, hr, by simpa using hg0, fun j _ hj => gsame _ j hj, by simp, rfl, rfl, rfl, ?_⟩
        simp only [hblk]
        split <;> simp
    · have hblk0 : hblk (.slice (some ⟨g, 0, none⟩) xs.length cap) = some g := by simp only [hblk, if_neg (Nat.pos_iff_ne_zero.1 hc0)]
      have hxl : xs.flatten.length = xs.length * i.size := flat_length hv.1
      have htl : (cur.toList.take (xs.length * i.size)).length = xs.length * i.size := by rw [hall1.length, hxl]
      by_cases hroom : xs.length + ys.length ≤ cap
      · have hfit : xs.length * i.size + us.length ≤ cur.size := by rw [hul, hcs, ← Nat.add_mul]; exact Nat.mul_le_mul_right _ hroom
        have hr := run_append_room (P := P) w t ty e i ht hinf g xs.length cap cur hg ⟨b, off, none⟩ ys.length c us hul hnews hone hroom hfit
        have hkp : Keeps F w F (w.setRow g (cur.toList.take (xs.length * i.size) ++ us ++ cur.toList.drop (xs.length * i.size + us.length)).toArray) :=
          ⟨fun _ _ h => h, fun b' o hb => cell_of_block (setRow_other w g b' _ (fun e => hnF o (e ▸ hb))) o⟩
        have htk : (cur.toList.take (xs.length * i.size) ++ us ++ cur.toList.drop (xs.length * i.size + us.length)).toArray.toList.take ((xs ++ ys).length * i.size) = cur.toList.take (xs.length * i.size) ++ us := by
          have hl : (cur.toList.take (xs.length * i.size) ++ us).length = (xs ++ ys).length * i.size := by rw [List.length_append, List.length_append, htl, hul, Nat.add_mul]
          rw [← hl]
          exact List.take_left
        refine ⟨_, _, hr, ⟨hsz, .inr ⟨g, cap, _, by rw [List.length_append], hc0, hNg, hnF, setRow_heap w g cur _ e _ hg, by rw [List.length_append]; exact hroom, hcm, ?_, ?_, ?_⟩⟩, fun j hj _ => setRow_other w g j _ (fun e => hj (by rw [hblk0, e])), by simp, rfl, rfl, rfl, .inr (.inl ?_)⟩
        · simp only [List.size_toArray, List.length_append, List.length_take, List.length_drop, Array.length_toList]
          omega
        · rw [htk]
          intro u hu
          rcases List.mem_append.1 hu with hu | hu
          · exact hone1 u hu
          · exact hone u hu
        · rw [htk, List.flatten_append]
          exact (hall1.mono fun _ _ => RF.mono hkp _ _).append (hall.mono fun _ _ => RF.mono hkp _ _)
        · simp only [hblk]
      · have holds : ∀ j u, (cur.toList.take (xs.length * i.size))[j]? = some u → w.cell? ((⟨g, 0, none⟩ : Addr).add j) = some u := by
          intro j u hj
          rw [Addr.add_lit, Nat.zero_add, cell_of_row w g j cur e (0, 0) hg]
          rw [List.getElem?_take] at hj
          split at hj
          · simpa using hj
          · cases hj
        have hfit : Builtin.nextslicecap (xs.length + ys.length) cap * i.bytes ≤ 281474976710656 := growslice_fits (by omega) hbytes
        have hr := run_append_grow (P := P) w t ty e i z ht hinf hz ⟨g, 0, none⟩ xs.length cap _ htl holds ⟨b, off, none⟩ ys.length c us hul hnews (by omega) (by omega) hfit
        refine ⟨_, _, hr, grown cap _ (by omega) htl hone1 hall1, fun j _ hj => gsame _ j hj, by simp, rfl, rfl, rfl, ?_⟩
        simp only [hblk]
        split <;> simp

theorem sound_app (hi : Inv O F0 w0 M F s.env s.mem a w) {t e : TypeId} {i : TypeInfo} {x y : Operand} {ax ay : AX} {zs : List DV} (ho : o.op = .call { callee := .builtin .append, args := #[x, y], argTypes := #[t, t] }) (ht : P.underlying t = some (.slice e))
    (hinf : P.info? e = some i) (hz : zeroT P e = some zs) (hzl : zs.length = i.size) (h0 : 0 < i.size) (hx : trX x = some ax) (hy : trX y = some ay)
    (hK : kApp e i.size i.bytes (ev s.env ax) (ev s.env ay) o.dst s K) : o.wp P a w (Gd O F0 w0 K) Q := by
  have h1 := trX_ok hx hi
  have h2 := trX_ok hy hi
  obtain ⟨z, _, hz2, i', hinf', hz3⟩ := zeroT_ok hz
  rw [hinf] at hinf'; cases hinf'
  have hzs : z.cells.size = i.size := by rw [← hzl, ← (RFs_iff.1 (constL_ok hz2 F w).1).length]; simp
  -- what is appended to
  have dstF : ∃ xs mem', VecOK F w (Nw O w0) e i.size xs (a.eval x) ∧ Inv O F0 w0 M F s.env mem' a w ∧ (∀ j blk v b, mget mem' j = some blk → M j = some v → hblk v = some b → hblk (a.eval x) ≠ some b) ∧
      (∀ b, hblk (a.eval x) = some b → Nw O w0 b ∧ ∀ o, ¬ F b o) ∧
      srcK i.size (ev s.env ay) s.mem fun ys => xs.length + ys.length ≤ maxLen ∧ (xs.length + ys.length) * i.bytes ≤ 140737488355328 ∧ kOw o.dst ⟨s.env, mem'⟩ K (.vec e i.size (xs ++ ys)) := by
    cases hd1 : ev s.env ax <;> rw [hd1] at hK h1 <;> first | exact hK.elim | skip
    · obtain ⟨A, e1⟩ := RV_e0 h1
      refine ⟨[], s.mem, ⟨by simp, .inl ⟨rfl, A, e1⟩⟩, hi, ?_, ?_, hK⟩ <;> rw [e1] <;> cases A <;> simp [hblk]
    · rename_i k
      simp only [kApp, dstK] at hK
      cases hm : mget s.mem k with
      | none => rw [hm] at hK; exact hK.elim
      | some blk =>
        rw [hm] at hK
        cases blk with
        | box cs => exact hK.elim
        | mp kk es => exact hK.elim
        | vec e' s' xs =>
          obtain ⟨rfl, rfl, hk⟩ := hK
          have hMk : M k = some (a.eval x) := (show RVc M F w (.ow k) _ from h1).1
          refine ⟨xs, mdel k s.mem, hi.vec hm h1, hi.mdel k, ?_, ?_, hk⟩
          · intro j blk v b g1 g2 g3 g4
            rw [mget_mdel] at g1
            split at g1
            · cases g1
            · rename_i hne
              exact hne (hi.dis j k blk _ v _ b g1 hm g2 hMk g3 g4)
          · intro b hb
            have := (hi.mm k _ hm).block hMk hb
            exact ⟨this.1, this.2.1⟩
  obtain ⟨xs, mem', hv, hi', hdis, hblkN, hsrcK⟩ := dstF
  obtain ⟨ys, B, c, e2, hsrc, b1, b2, hk⟩ := src_ok hi h2 hsrcK
  obtain ⟨v', w', hr, hv', hsame, hsz, hos, htp, hout, hb'⟩ := append_ok (P := P) (ty := o.type) (c := c) (fun b hb => .inl (Nat.le_trans hi.grow.size hb)) hi.grow.fwf ht hinf hz3 hzs h0 hv hsrc b1 b2
  have hiw := hi'.world (w' := w') (fun j => hblk (a.eval x) = some j) (fun j hj hne => hsame j hne hj) hsz hos htp hout (fun j o hj => (hblkN j hj).2 o) (fun j blk v b g1 g2 g3 => hdis j blk v b g1 g2 g3) (fun j hj => (hblkN j hj).1)
  unfold Oper.wp
  rw [run_builtin (w' := w') (v := v') ho fun cs => by simp only [builtin]; exact run_v (by simpa [e2] using hr)]
  cases hdst : o.dst with
  | none => rw [hdst] at hk; exact hk.elim
  | some d =>
    rw [hdst] at hk
    show Gd O F0 w0 K (a.put o.dst _) _
    rw [hdst]
    refine ⟨_, _, F, (hiw.bind d v' (.vec e i.size (xs ++ ys)) ⟨v', by simp [upd], hv'⟩ ?_).put d ?_, hk⟩
    · intro j blk v b _ g1 g2 g3 g4
      rcases hb' with h | h | h
      · rw [h] at g4; cases g4
      · rw [h] at g4; exact hdis j blk v b g1 g2 g3 g4
      · rw [h] at g4
        cases g4
        exact hi'.fresh g1 g2 g3 rfl
    · obtain ⟨A, cap, e3, _⟩ := hv'.slice
      rw [e3]
      exact mk_ow (by simp [upd])
theorem sound_appn (hi : Inv O F0 w0 M F s.env s.mem a w) {t e : TypeId} {i : TypeInfo} {x y : Operand} {ax ay : AX} {zs : List DV} (ho : o.op = .call { callee := .builtin .append, args := #[x, y], argTypes := #[t, t] }) (ht : P.underlying t = some (.slice e))
    (hinf : P.info? e = some i) (hz : zeroT P e = some zs) (hzl : zs.length = i.size) (h0 : 0 < i.size) (hx : trX x = some ax) (hy : trX y = some ay)
    (hK : kAppn e i.size i.bytes (ev s.env ax) (ev s.env ay) o.dst s K) : o.wp P a w (GdE w O F0 w0 K) Q := by
  have h1 := trX_ok hx hi
  have h2 := trX_ok hy hi
  obtain ⟨z, _, hz2, i', hinf', hz3⟩ := zeroT_ok hz
  rw [hinf] at hinf'; cases hinf'
  have hzs : z.cells.size = i.size := by rw [← hzl, ← (RFs_iff.1 (constL_ok hz2 F w).1).length]; simp
  cases hd1 : ev s.env ax <;> rw [hd1] at hK h1 <;> first | exact hK.elim | skip
  obtain ⟨A, e1⟩ := RV_e0 h1
  have hnb : hblk (a.eval x) = none := by rw [e1]; cases A <;> simp [hblk]
  have hv : VecOK F w (Nw O w0) e i.size [] (a.eval x) := ⟨by simp, .inl ⟨rfl, A, e1⟩⟩
  have hsrcK : srcK i.size (ev s.env ay) s.mem fun ys => ([] : List (List DV)).length + ys.length ≤ maxLen ∧ (([] : List (List DV)).length + ys.length) * i.bytes ≤ 140737488355328 ∧ kOw o.dst ⟨s.env, s.mem⟩ K (.vec e i.size ([] ++ ys)) := hK
  obtain ⟨ys, B, c, e2, hsrc, b1, b2, hk⟩ := src_ok hi h2 hsrcK
  obtain ⟨v', w', hr, hv', hsame, hsz, hos, htp, hout, hb'⟩ := append_ok (P := P) (ty := o.type) (c := c) (fun b hb => .inl (Nat.le_trans hi.grow.size hb)) hi.grow.fwf ht hinf hz3 hzs h0 hv hsrc b1 b2
  have hsame' : ∀ j, j < w.heap.size → w'.heap[j]? = w.heap[j]? := fun j hj => hsame j (by rw [hnb]; simp) hj
  have hiw := hi.world (w' := w') (fun j => False) (fun j hj _ => hsame' j hj) hsz hos htp hout (fun j o hj => hj.elim) (fun j blk v b g1 g2 g3 => id) (fun j hj => hj.elim)
  unfold Oper.wp
  rw [run_builtin (w' := w') (v := v') ho fun cs => by simp only [builtin]; exact run_v (by simpa [e2] using hr)]
  cases hdst : o.dst with
  | none => rw [hdst] at hk; exact hk.elim
  | some d =>
    rw [hdst] at hk
    show GdE w O F0 w0 K (a.put o.dst _) _
    rw [hdst]
    refine ⟨⟨_, _, F, (hiw.bind d v' (.vec e i.size ([] ++ ys)) ⟨v', by simp [upd], hv'⟩ ?_).put d ?_, hk⟩, hsame'⟩
    · intro j blk v b _ g1 g2 g3 g4
      rcases hb' with h | h | h
      · rw [h] at g4; cases g4
      · rw [h, hnb] at g4; cases g4
      · rw [h] at g4
        cases g4
        exact hi.fresh g1 g2 g3 rfl
    · obtain ⟨A, cap, e3, _⟩ := hv'.slice
      rw [e3]
      exact mk_ow (by simp [upd])
theorem sound_bs0 (hi : Inv O F0 w0 M F s.env s.mem a w) {t e : TypeId} {sz : Nat} {parts : Array (Nat × Operand)} (ho : o.op = .buildSlice t 0 parts) (ht : P.underlying t = some (.slice e)) (hs : szT P e = some sz) (hp : trRows parts.toList = some [])
    (hK : kPut o.dst s K .e0) : o.wp P a w (GdE w O F0 w0 K) Q := by
  have hpar : parts = #[] := by
    apply Array.ext'
    cases hl : parts.toList with
    | nil => rfl
    | cons p l =>
      rw [hl] at hp
      obtain ⟨i, x⟩ := p
      simp only [trRows] at hp
      split at hp <;> cases hp
  subst hpar
  have hrun : (execOp a.eval o).run P w = .ok (.value (.slice (some ⟨w.heap.size, 0, none⟩) 0 0)) (w.alloc (.cells #[] e)) := by
    unfold execOp
    rw [ho]
    refine run_v ?_
    simp [Instr.buildSlice, run_underlying ht, run_sizeOf hs, Instr.fill, newRow, run_newObj, World.alloc_eq]
    have h0 : Array.map (fun _ => (default : Value)) (Array.range 0) = #[] := by apply Array.ext'; simp
    rw [h0]
  have hg := hi.alloc (.cells #[] e)
  unfold Oper.wp
  rw [hrun]
  exact ⟨put_ok hg (RV_of_RF (by rw [RF]; exact ⟨_, rfl⟩)) hK, fun b hb => heap_alloc_old w _ hb⟩
end
end Go.Proofs.YtcolebkklojccaaGreat.E
