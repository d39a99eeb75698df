/-
  The engine, part K: aggregates are laid, blocks are made and written.
-/
import Derived.Test.YtcolebkklojccaaGreatEngJ
set_option linter.unusedVariables false
set_option linter.unusedSimpArgs false
set_option linter.unusedSimpArgs false
namespace Go.Proofs.YtcolebkklojccaaGreat.E
open Go

theorem seg_length {α : Type} (cs : List α) (o : Nat) (new : List α) (h : o + new.length ≤ cs.length) : (cs.take o ++ new ++ cs.drop (o + new.length)).length = cs.length := by
  simp; omega
theorem fold_set (off : Nat) : ∀ (l : List Value) (i : Nat) (cells : Array Value), off + i + l.length ≤ cells.size →
    ((l.zipIdx i).foldl (fun cs (x : Value × Nat) => cs.setIfInBounds (off + x.2) x.1) cells).toList = cells.toList.take (off + i) ++ l ++ cells.toList.drop (off + i + l.length)
  | [], i, cells, _ => by simp
  | v :: l, i, cells, h => by
      have hl : off + i + (l.length + 1) ≤ cells.toList.length := by simpa using h
      rw [List.zipIdx_cons, List.foldl_cons, fold_set off l (i + 1) _ (by simp at h ⊢; omega)]
      have := list_seg_step cells.toList (off + i) v l hl
      simp only [Array.toList_setIfInBounds, List.length_cons]
      rw [show off + (i + 1) = off + i + 1 from by omega]
      rw [this]
section
variable {P : Program} {O : Nat → Prop} {F0 : Frz} {w0 : World} {M : Hnd} {F : Frz} {a : Act} {w w' : World} {s : DS} {K : DS → Prop} {Q : Exit → Act → World → Prop} {o : Oper}

theorem cellOK_one {d : DV} {v : Value} (hd : cellOK d = true) (h : RV M F w d v) : v.oneCell' = true ∧ RVc M F w d v := by
  cases d <;> first | (simp [cellOK] at hd; done) | skip
  case ml k off => obtain ⟨b, _, e⟩ := h; exact ⟨by rw [e]; rfl, ⟨b, by assumption, e⟩⟩
  case ve k sz i off => obtain ⟨b, n, c, h1, e⟩ := h; exact ⟨by rw [e]; rfl, ⟨b, n, c, h1, e⟩⟩
  case ow k => exact ⟨h.2, h⟩
  all_goals
    have hr := oneCell_of_fz (show RF F w _ v from h)
    exact ⟨by simpa using hr, h⟩
theorem cells_one {v : Value} (h : v.oneCell' = true) : v.cells = #[v] := by
  cases v <;> first | rfl | (simp [Value.oneCell'] at h)
theorem cellsK_ok {x : DV} {v : Value} {KK : List DV → Prop} (h : RV M F w x v) (hK : cellsK x KK) : ∃ new, All2 (RVc M F w) new v.cells.toList ∧ (∀ u ∈ v.cells.toList, u.oneCell' = true) ∧ KK new := by
  have plain : ∀ {d : DV}, RV M F w d v → cellOK d = true → KK [d] → ∃ new, All2 (RVc M F w) new v.cells.toList ∧ (∀ u ∈ v.cells.toList, u.oneCell' = true) ∧ KK new := by
    intro d h1 h2 h3
    obtain ⟨g1, g2⟩ := cellOK_one h2 h1
    exact ⟨[d], by rw [cells_one g1]; exact All2.cons g2 All2.nil, by rw [cells_one g1]; simpa using g1, h3⟩
  cases x with
  | agg cs =>
    obtain ⟨arr, e, h1, h2⟩ := RV_agg h
    subst e
    exact ⟨cs, h2.mono fun _ _ => RVc_of_RF, h1, hK⟩
  | aggm cs =>
    obtain ⟨arr, e, h1, h2⟩ := h
    subst e
    exact ⟨cs, h2, h1, hK⟩
  | _ => exact plain h hK.1 hK.2
theorem All2.seg {cs new : List DV} {us vs : List Value} {R : DV → Value → Prop} (h : All2 R cs us) (k : All2 R new vs) (o : Nat) : All2 R (E.seg cs o new) (us.take o ++ vs ++ us.drop (o + vs.length)) := by
  unfold E.seg
  rw [k.length]
  exact ((h.take o).append k).append (h.drop _)
theorem one_seg {us vs : List Value} (h : ∀ u ∈ us, u.oneCell' = true) (k : ∀ u ∈ vs, u.oneCell' = true) (o n : Nat) : ∀ u ∈ us.take o ++ vs ++ us.drop n, u.oneCell' = true := by
  intro u hu
  simp only [List.mem_append] at hu
  rcases hu with (hu | hu) | hu
  · exact h u (List.mem_of_mem_take hu)
  · exact k u hu
  · exact h u (List.mem_of_mem_drop hu)

theorem fill_ok {env : List DV} {mem : Mem} (hi : Inv O F0 w0 M F env mem a w) (place : Nat → Option (Nat × Nat)) : ∀ (parts : List (Nat × Operand)) (aps : List (Nat × Nat × AX)) (zs : List DV) (cells : Array Value) {KK : List DV → Prop},
    (List.length parts = aps.length ∧ ∀ (j : Nat) i x o n ax, parts[j]? = some (i, x) → aps[j]? = some (o, n, ax) → place i = some (o, n) ∧ trX x = some ax) →
    All2 (RVc M F w) zs cells.toList → (∀ u ∈ cells.toList, u.oneCell' = true) → fillK env aps zs KK →
    ∃ cells' cs', Instr.fill place cells (parts.map fun (i, x) => (i, a.eval x)) = some cells' ∧ All2 (RVc M F w) cs' cells'.toList ∧ (∀ u ∈ cells'.toList, u.oneCell' = true) ∧ KK cs'
  | [], aps, zs, cells, KK, hp, hz, h1, hK => by
      have : aps = [] := List.eq_nil_of_length_eq_zero (by simpa using hp.1.symm)
      subst this
      exact ⟨cells, zs, rfl, hz, h1, hK⟩
  | (i, x) :: parts, [], zs, cells, KK, hp, hz, h1, hK => by simp at hp
  | (i, x) :: parts, (off, n, ax) :: aps, zs, cells, KK, hp, hz, h1, hK => by
      obtain ⟨p1, p2⟩ := hp.2 0 i x off n ax rfl rfl
      simp only [fillK] at hK
      obtain ⟨new, r1, r2, r3, r4, r5⟩ := cellsK_ok (trX_ok p2 hi) hK
      have hsz : (a.eval x).cells.size = n := by rw [← r3, ← r1.length]; simp
      have hcl : cells.size = zs.length := by rw [← hz.length]; simp
      have hseg := fold_set off (a.eval x).cells.toList 0 cells (by simp [hsz, hcl]; omega)
      have hfold : ((a.eval x).cells.zipIdx.foldl (fun cs (c, j) => cs.setIfInBounds (off + j) c) cells).toList = cells.toList.take off ++ (a.eval x).cells.toList ++ cells.toList.drop (off + (a.eval x).cells.toList.length) := by
        rw [← Array.foldl_toList]
        simpa using hseg
      have r5' : fillK env aps (E.seg zs off new) KK := r5
      obtain ⟨cells', cs', q1, q2, q3, q4⟩ := fill_ok hi place parts aps (E.seg zs off new) ((a.eval x).cells.zipIdx.foldl (fun cs (c, j) => cs.setIfInBounds (off + j) c) cells)
        ⟨by simpa using hp.1, fun j i' x' o' n' ax' h2 h3 => hp.2 (j + 1) i' x' o' n' ax' (by simpa using h2) (by simpa using h3)⟩ (by rw [hfold]; exact hz.seg r1 off) (by rw [hfold]; exact one_seg h1 r2 _ _) r5'
      refine ⟨cells', cs', ?_, q2, q3, q4⟩
      simp only [List.map_cons, Instr.fill, p1]
      rw [if_neg (by simp [hsz, hcl]; omega)]
      exact q1

theorem zeroT_ok {t : TypeId} {zs : List DV} (h : zeroT P t = some zs) : ∃ z, (∀ w : World, (zeroValue t).run P w = .ok z w) ∧ constL z.cells.toList = some zs ∧ (∃ i, P.info? t = some i ∧ i.zero = some z) := by
  unfold zeroT at h
  split at h
  · rename_i i hinf
    split at h
    · rename_i z hz
      exact ⟨z, fun w => by simp [zeroValue, typeInfo, hinf, hz], h, i, hinf, hz⟩
    · cases h
  · cases h
theorem constL_RVc {vs : List Value} {ds : List DV} (h : constL vs = some ds) : All2 (RVc M F w) ds vs ∧ (∀ u ∈ vs, u.oneCell' = true) :=
  ⟨(RFs_iff.1 (constL_ok h F w).1).mono fun _ _ => RVc_of_RF, (constL_ok h F w).2⟩

theorem trFields_ok {fs : List Field} {sz : Nat → Option Nat} : ∀ {parts : List (Nat × Operand)} {aps : List (Nat × Nat × AX)}, trFields fs sz parts = some aps →
    parts.length = aps.length ∧ ∀ (j : Nat) i x o n ax, parts[j]? = some (i, x) → aps[j]? = some (o, n, ax) → (∃ f, fs[i]? = some f ∧ f.offset = o ∧ sz f.type = some n) ∧ trX x = some ax
  | [], aps, h => by simp only [trFields, Option.some.injEq] at h; subst h; simp
  | (i, x) :: parts, aps, h => by
      simp only [trFields] at h
      split at h <;> first | (cases h; done) | skip
      rename_i f ax as h1 h2 h3
      split at h <;> first | (cases h; done) | skip
      rename_i n hn
      cases h
      obtain ⟨g1, g2⟩ := trFields_ok h3
      refine ⟨by simp [g1], fun j i' x' o' n' ax' e1 e2 => ?_⟩
      cases j with
      | zero => simp at e1 e2; obtain ⟨rfl, rfl⟩ := e1; obtain ⟨rfl, rfl, rfl⟩ := e2; exact ⟨⟨f, h1, rfl, hn⟩, h2⟩
      | succ j => exact g2 j i' x' o' n' ax' (by simpa using e1) (by simpa using e2)
theorem trElems_ok {sz : Nat} : ∀ {parts : List (Nat × Operand)} {aps : List (Nat × Nat × AX)}, trElems sz parts = some aps →
    parts.length = aps.length ∧ ∀ (j : Nat) i x o n ax, parts[j]? = some (i, x) → aps[j]? = some (o, n, ax) → (o = i * sz ∧ n = sz) ∧ trX x = some ax
  | [], aps, h => by simp only [trElems, Option.some.injEq] at h; subst h; simp
  | (i, x) :: parts, aps, h => by
      simp only [trElems] at h
      split at h <;> first | (cases h; done) | skip
      rename_i ax as h2 h3
      cases h
      obtain ⟨g1, g2⟩ := trElems_ok h3
      refine ⟨by simp [g1], fun j i' x' o' n' ax' e1 e2 => ?_⟩
      cases j with
      | zero => simp at e1 e2; obtain ⟨rfl, rfl⟩ := e1; obtain ⟨rfl, rfl, rfl⟩ := e2; exact ⟨⟨rfl, rfl⟩, h2⟩
      | succ j => exact g2 j i' x' o' n' ax' (by simpa using e1) (by simpa using e2)
theorem sound_build_struct (hi : Inv O F0 w0 M F s.env s.mem a w) {t : TypeId} {parts : Array (Nat × Operand)} {fs : Array Field} {zs : List DV} {aps : List (Nat × Nat × AX)} (ho : o.op = .build t parts) (ht : P.underlying t = some (.struct fs)) (hz : zeroT P t = some zs)
    (hsz : ∀ f ∈ fs.toList, (szT P f.type).isSome = true) (hp : trFields fs.toList (szT P) parts.toList = some aps) (hK : fillK s.env aps zs fun cs => kPut o.dst s K (mkAgg cs)) : o.wp P a w (Gd O F0 w0 K) Q := by
  obtain ⟨z, hz1, hz2, _⟩ := zeroT_ok hz
  have hzc := constL_RVc (M := M) (F := F) (w := w) hz2
  have hpl : ∀ w : World, (fs.mapM fun f => do pure (f.offset, ← sizeOf f.type) : Sem (Array (Nat × Nat))).run P w = .ok (fs.map fun f => (f.offset, (szT P f.type).getD 0)) w := by
    intro w
    have hl : ∀ (l : List Field), (∀ f ∈ l, (szT P f.type).isSome = true) → (l.mapM fun f => do pure (f.offset, ← sizeOf f.type) : Sem (List (Nat × Nat))).run P w = .ok (l.map fun f => (f.offset, (szT P f.type).getD 0)) w := by
      intro l hl
      induction l with
      | nil => rfl
      | cons f l ih =>
        obtain ⟨n, hn⟩ := Option.isSome_iff_exists.1 (hl f (by simp))
        simp only [List.mapM_cons, Sem.run_bind, run_sizeOf hn, Result.andThen_ok, Sem.run_pure, ih fun g hg => hl g (List.mem_cons_of_mem _ hg), List.map_cons, hn, Option.getD_some]
    rw [Array.mapM_eq_mapM_toList]
    simp only [Sem.run_map, hl fs.toList hsz, Result.andThen_ok]
    congr 1
    apply Array.ext'
    simp
  obtain ⟨g1, g2⟩ := trFields_ok hp
  obtain ⟨cells', cs', q1, q2, q3, q4⟩ := fill_ok hi (fun i => (fs.map fun f => (f.offset, (szT P f.type).getD 0))[i]?) parts.toList aps zs z.cells
    ⟨g1, fun j i x o' n ax e1 e2 => by
      obtain ⟨⟨f, f1, f2, f3⟩, f4⟩ := g2 j i x o' n ax e1 e2
      refine ⟨?_, f4⟩
      have : fs[i]? = some f := by simpa using f1
      simp [this, f2, f3]⟩ hzc.1 hzc.2 hK
  refine wp_put (v := .agg cells') ?_ hi (mkAgg_RV q3 q2) q4
  unfold execOp
  rw [ho]
  refine run_v ?_
  simp only [Instr.build, Sem.run_bind, Sem.run_map, hz1, Result.andThen_ok, run_underlying ht, hpl]
  have hm : (parts.map fun (i, x) => (i, a.eval x)).toList = parts.toList.map fun (i, x) => (i, a.eval x) := by simp
  rw [hm, q1]
  rfl
theorem sound_build_array (hi : Inv O F0 w0 M F s.env s.mem a w) {t e : TypeId} {n sz : Nat} {parts : Array (Nat × Operand)} {zs : List DV} {aps : List (Nat × Nat × AX)} (ho : o.op = .build t parts) (ht : P.underlying t = some (.array n e)) (hz : zeroT P t = some zs)
    (hs : szT P e = some sz) (hp : trElems sz parts.toList = some aps) (hK : fillK s.env aps zs fun cs => kPut o.dst s K (mkAgg cs)) : o.wp P a w (Gd O F0 w0 K) Q := by
  obtain ⟨z, hz1, hz2, _⟩ := zeroT_ok hz
  have hzc := constL_RVc (M := M) (F := F) (w := w) hz2
  obtain ⟨g1, g2⟩ := trElems_ok hp
  obtain ⟨cells', cs', q1, q2, q3, q4⟩ := fill_ok hi (fun i => some (i * sz, sz)) parts.toList aps zs z.cells
    ⟨g1, fun j i x o' n ax e1 e2 => by
      obtain ⟨⟨f1, f2⟩, f4⟩ := g2 j i x o' n ax e1 e2
      exact ⟨by rw [f1, f2], f4⟩⟩ hzc.1 hzc.2 hK
  refine wp_put (v := .agg cells') ?_ hi (mkAgg_RV q3 q2) q4
  unfold execOp
  rw [ho]
  refine run_v ?_
  simp only [Instr.build, Sem.run_bind, Sem.run_map, hz1, Result.andThen_ok, run_underlying ht, run_sizeOf hs]
  have hm : (parts.map fun (i, x) => (i, a.eval x)).toList = parts.toList.map fun (i, x) => (i, a.eval x) := by simp
  rw [hm, q1]
  rfl

/-! ### blocks are made -/
theorem Inv.fresh {env : List DV} {mem : Mem} (hi : Inv O F0 w0 M F env mem a w) {j : Nat} {blk : Blk} {v : Value} {b : Nat} (h1 : mget mem j = some blk) (h2 : M j = some v) (h3 : hblk v = some b) : b ≠ w.heap.size := by
  have := ((hi.mm j blk h1).block h2 h3).2.2
  omega
theorem sound_newbox (hi : Inv O F0 w0 M F s.env s.mem a w) {t : TypeId} {arr : Array Value} {cs : List DV} (hc : All2 (RVc M F w) cs arr.toList) (h1 : ∀ u ∈ arr.toList, u.oneCell' = true)
    (hrun : (execOp a.eval o).run P w = .ok (.value (.pointer (some ⟨w.heap.size, 0, none⟩))) (w.alloc (.cells arr t))) {d : Nat} (hd : o.dst = some d) (hK : kBind o.dst s K (.ml d 0) (.box (cs.map (klc d)))) : o.wp P a w (GdE w O F0 w0 K) Q := by
  have hi' := hi.alloc (.cells arr t)
  have hkp : Keeps F w F (w.alloc (.cells arr t)) := ⟨fun _ _ h => h, fun b o hb => cell_of_block (heap_alloc_old w _ (hi.grow.fwf b o hb)) o⟩
  unfold Oper.wp
  rw [hrun]
  rw [hd] at hK
  show GdE w O F0 w0 K (a.put o.dst _) _
  rw [hd]
  refine ⟨?_, fun b hb => heap_alloc_old w _ hb⟩
  refine ⟨_, _, F, (hi'.bind d (.pointer (some ⟨w.heap.size, 0, none⟩)) (.box (cs.map (klc d))) ?_ ?_).put d (mk_ml (k := d) (off := 0) (b := w.heap.size) (by simp [upd])), hK⟩
  · exact ⟨w.heap.size, arr, t, by simp [upd], .inl hi.grow.size, heap_alloc_new w _, h1, (hc.mono fun _ _ => RVc.mono hkp).map _ fun _ _ hh => hh.kl d _, fun o ho => Nat.lt_irrefl _ (hi.grow.fwf _ o ho)⟩
  · intro j blk' v b _ e1 e2 e3 e4
    simp only [hblk, Option.some.injEq] at e4
    exact hi.fresh e1 e2 e3 e4.symm
theorem klc_zero {vs : List Value} {ds : List DV} (h : constL vs = some ds) (d : Nat) : ds.map (klc d) = ds := by
  induction vs generalizing ds with
  | nil => simp only [constL, Option.some.injEq] at h; subst h; rfl
  | cons v vs ih =>
    simp only [constL] at h
    split at h <;> first | (cases h; done) | skip
    rename_i x xs h1 h2
    cases h
    rw [List.map_cons, ih h2]
    congr 1
    have := isFz_constS h1
    cases x <;> first | rfl | (simp [isFz] at this)
theorem sound_alloc (hi : Inv O F0 w0 M F s.env s.mem a w) {t : TypeId} {zs : List DV} {d : Nat} (ho : o.op = .alloc t) (hz : zeroT P t = some zs) (hd : o.dst = some d) (hK : kBind o.dst s K (.ml d 0) (.box zs)) : o.wp P a w (GdE w O F0 w0 K) Q := by
  obtain ⟨z, hz1, hz2, _⟩ := zeroT_ok hz
  have hzc := constL_RVc (M := M) (F := F) (w := w) hz2
  refine sound_newbox hi (t := t) (arr := z.cells) hzc.1 hzc.2 ?_ hd (by rw [klc_zero hz2]; exact hK)
  unfold execOp
  rw [ho]
  refine run_v ?_
  simp only [Instr.alloc, Sem.run_bind, hz1, Result.andThen_ok, newVar, newRow, run_newObj, Sem.run_pure, World.alloc_eq]
theorem sound_box (hi : Inv O F0 w0 M F s.env s.mem a w) {t : TypeId} {x : Operand} {ax : AX} (ho : o.op = .box t x) (hx : trX x = some ax) (hK : kBox (ev s.env ax) o.dst s K) : o.wp P a w (GdE w O F0 w0 K) Q := by
  obtain ⟨new, r1, r2, r3⟩ := cellsK_ok (trX_ok hx hi) hK
  cases hd : o.dst with
  | none => rw [hd] at r3; exact r3.elim
  | some d =>
    refine sound_newbox hi (t := t) (arr := (a.eval x).cells) r1 r2 ?_ hd (by rw [hd] at r3 ⊢; exact r3)
    unfold execOp
    rw [ho]
    refine run_v ?_
    simp only [Instr.box, Sem.run_bind, newVar, newRow, run_newObj, Result.andThen_ok, Sem.run_pure, World.alloc_eq]

theorem trRows_ok : ∀ {parts : List (Nat × Operand)} {aps : List (Nat × AX)}, trRows parts = some aps →
    parts.length = aps.length ∧ ∀ (j : Nat) i x i' ax, parts[j]? = some (i, x) → aps[j]? = some (i', ax) → i' = i ∧ trX x = some ax
  | [], aps, h => by simp only [trRows, Option.some.injEq] at h; subst h; simp
  | (i, x) :: parts, aps, h => by
      simp only [trRows] at h
      split at h <;> first | (cases h; done) | skip
      rename_i ax as h2 h3
      cases h
      obtain ⟨g1, g2⟩ := trRows_ok h3
      refine ⟨by simp [g1], fun j i0 x' i' ax' e1 e2 => ?_⟩
      cases j with
      | zero => simp at e1 e2; obtain ⟨rfl, rfl⟩ := e1; obtain ⟨rfl, rfl⟩ := e2; exact ⟨rfl, h2⟩
      | succ j => exact g2 j i0 x' i' ax' (by simpa using e1) (by simpa using e2)
theorem flat_set {sz : Nat} : ∀ {xs : List (List DV)} (i : Nat) (new : List DV), (∀ x ∈ xs, x.length = sz) → i < xs.length → new.length = sz → (xs.set i new).flatten = E.seg xs.flatten (i * sz) new
  | [], i, new, _, h, _ => by simp at h
  | x :: xs, 0, new, hs, _, hn => by
      have hx := hs x (by simp)
      simp [E.seg, hn, ← hx]
  | x :: xs, i + 1, new, hs, h, hn => by
      have hx := hs x (by simp)
      have ih := flat_set i new (fun y hy => hs y (List.mem_cons_of_mem _ hy)) (by simpa using h) hn
      rw [List.set_cons_succ, List.flatten_cons, ih, List.flatten_cons]
      unfold E.seg
      have e1 : (i + 1) * sz = sz + i * sz := by rw [Nat.add_mul]; omega
      rw [e1, List.take_append, List.drop_append, hx]
      rw [show sz + i * sz - sz = i * sz from by omega, show sz + i * sz + new.length - sz = i * sz + new.length from by omega]
      rw [List.take_of_length_le (by omega : x.length ≤ sz + i * sz), List.drop_of_length_le (by omega : x.length ≤ sz + i * sz + new.length)]
      simp
theorem rows_ok {env : List DV} {mem : Mem} (hi : Inv O F0 w0 M F env mem a w) {sz : Nat} : ∀ (parts : List (Nat × Operand)) (aps : List (Nat × AX)) (xs : List (List DV)) (cells : Array Value) {KK : List (List DV) → Prop},
    (parts.length = aps.length ∧ ∀ (j : Nat) i x i' ax, parts[j]? = some (i, x) → aps[j]? = some (i', ax) → i' = i ∧ trX x = some ax) → (∀ x ∈ xs, x.length = sz) →
    All2 (RF F w) xs.flatten cells.toList → (∀ u ∈ cells.toList, u.oneCell' = true) → rowsK env sz aps xs KK →
    ∃ cells' xs', Instr.fill (fun i => some (i * sz, sz)) cells (parts.map fun (i, x) => (i, a.eval x)) = some cells' ∧ xs'.length = xs.length ∧ (∀ x ∈ xs', x.length = sz) ∧ All2 (RF F w) xs'.flatten cells'.toList ∧ (∀ u ∈ cells'.toList, u.oneCell' = true) ∧ KK xs'
  | [], aps, xs, cells, KK, hp, hs, hz, h1, hK => by
      have : aps = [] := List.eq_nil_of_length_eq_zero (by simpa using hp.1.symm)
      subst this
      exact ⟨cells, xs, rfl, rfl, hs, hz, h1, hK⟩
  | (i, x) :: parts, [], xs, cells, KK, hp, hs, hz, h1, hK => by simp at hp
  | (i, x) :: parts, (i', ax) :: aps, xs, cells, KK, hp, hs, hz, h1, hK => by
      obtain ⟨rfl, p2⟩ := hp.2 0 i x i' ax rfl rfl
      simp only [rowsK] at hK
      obtain ⟨new, r1, r2, r3, r4, r5, r6⟩ := cellsK_ok (trX_ok p2 hi) hK
      have r1' := (RVcs_fz r5).1 r1
      have hvs : (a.eval x).cells.size = sz := by rw [← r3, ← r1.length]; simp
      have hfl := flat_length hs
      have hcl : cells.size = xs.length * sz := by rw [← hfl, ← hz.length]; simp
      have hle : i' * sz + sz ≤ xs.length * sz := by
        have : (i' + 1) * sz ≤ xs.length * sz := Nat.mul_le_mul_right _ (by omega)
        rw [Nat.add_mul] at this; omega
      have hseg := fold_set (i' * sz) (a.eval x).cells.toList 0 cells (by simp [hvs, hcl]; omega)
      have hfold : ((a.eval x).cells.zipIdx.foldl (fun cs (c, j) => cs.setIfInBounds (i' * sz + j) c) cells).toList = cells.toList.take (i' * sz) ++ (a.eval x).cells.toList ++ cells.toList.drop (i' * sz + (a.eval x).cells.toList.length) := by
        rw [← Array.foldl_toList]
        simpa using hseg
      obtain ⟨cells', xs', q1, q2, q3, q4, q5, q6⟩ := rows_ok hi parts aps (xs.set i' new) ((a.eval x).cells.zipIdx.foldl (fun cs (c, j) => cs.setIfInBounds (i' * sz + j) c) cells)
        ⟨by simpa using hp.1, fun j i2 x' o' ax' h2 h3 => hp.2 (j + 1) i2 x' o' ax' (by simpa using h2) (by simpa using h3)⟩
        (fun y hy => by
          rcases List.mem_or_eq_of_mem_set hy with hy | hy
          · exact hs y hy
          · rw [hy]; exact r3) (by rw [hfold, flat_set i' new hs r4 r3]; exact hz.seg r1' _) (by rw [hfold]; exact one_seg h1 r2 _ _) r6
      refine ⟨cells', xs', ?_, by simpa using q2, q3, q4, q5, q6⟩
      simp only [List.map_cons, Instr.fill]
      rw [if_neg (by simp [hvs, hcl]; omega)]
      exact q1
theorem replicate_flat {zs : List DV} {us : List Value} (h : All2 (RF F w) zs us) : ∀ n : Nat, All2 (RF F w) (List.replicate n zs).flatten (List.replicate n us).flatten
  | 0 => All2.nil
  | n + 1 => by rw [List.replicate_succ, List.replicate_succ, List.flatten_cons, List.flatten_cons]; exact h.append (replicate_flat h n)
theorem range_mod (us : List Value) (d : Value) : ∀ n : Nat, ((List.range (n * us.length)).map fun i => us.getD (i % us.length) d) = (List.replicate n us).flatten
  | 0 => by simp
  | n + 1 => by
      rw [List.replicate_succ', List.flatten_append, ← range_mod us d n, Nat.add_mul, Nat.one_mul, List.range_add, List.map_append]
      congr 1
      simp only [List.map_map, List.flatten_cons, List.flatten_nil, List.append_nil]
      apply List.ext_getElem?
      intro j
      by_cases hj : j < us.length
      · simp [List.getElem?_range, hj, Nat.mod_eq_of_lt hj]
      · simp [hj, List.getElem?_eq_none (Nat.le_of_not_lt hj)]
theorem sound_buildSl (hi : Inv O F0 w0 M F s.env s.mem a w) {t e : TypeId} {sz len : Nat} {parts : Array (Nat × Operand)} {zs : List DV} {aps : List (Nat × AX)} (ho : o.op = .buildSlice t len parts) (ht : P.underlying t = some (.slice e)) (hs : szT P e = some sz)
    (hz : zeroT P e = some zs) (hp : trRows parts.toList = some aps) (h0 : 0 < sz) (hzl : zs.length = sz) (hlim : len * sz ≤ 1024) {d : Nat} (hd : o.dst = some d)
    (hK : rowsK s.env sz aps (List.replicate len zs) fun xs => kBind o.dst s K (.ow d) (.vec e sz xs)) : o.wp P a w (GdE w O F0 w0 K) Q := by
  obtain ⟨z, hz1, hz2, _⟩ := zeroT_ok hz
  have hzc := constL_ok hz2 F w
  have hzlen : z.cells.size = sz := by rw [← hzl, ← (RFs_iff.1 hzc.1).length]; simp
  -- the cells before the parts are laid
  let cells0 : Array Value := (Array.range (len * sz)).map (fun i => (if len * sz = 0 then #[] else z.cells)[i % (if len * sz = 0 then #[] else z.cells).size]!)
  have hc0 : cells0.toList = (List.replicate len z.cells.toList).flatten := by
    show ((Array.range (len * sz)).map _).toList = _
    rw [Array.toList_map, Array.toList_range]
    by_cases hl0 : len * sz = 0
    · have : len = 0 := by
        rcases Nat.mul_eq_zero.1 hl0 with h | h
        · exact h
        · omega
      subst this
      simp
    · simp only [if_neg hl0]
      have := range_mod z.cells.toList default len
      rw [← this]
      simp only [Array.length_toList, hzlen]
      apply List.map_congr_left
      intro i _
      rw [Array.getElem!_eq_getD]
      simp [List.getD, Array.getD_eq_getD_getElem?]
  have hone0 : ∀ u ∈ cells0.toList, u.oneCell' = true := by
    rw [hc0]
    intro u hu
    obtain ⟨l, hl, hul⟩ := List.mem_flatten.1 hu
    rw [List.eq_of_mem_replicate hl] at hul
    exact hzc.2 u hul
  obtain ⟨cells', xs', q1, q2, q3, q4, q5, q6⟩ := rows_ok hi parts.toList aps (List.replicate len zs) cells0 (trRows_ok hp) (fun x hx => by rw [List.eq_of_mem_replicate hx]; exact hzl)
    (by rw [hc0]; exact replicate_flat (RFs_iff.1 hzc.1) len) hone0 hK
  have hlen : xs'.length = len := by simpa using q2
  have hsize : cells'.size = len * sz := by
    have := q4.length
    rw [flat_length q3, hlen] at this
    simpa using this
  have hi' := hi.alloc (.cells cells' e)
  have hkp : Keeps F w F (w.alloc (.cells cells' e)) := ⟨fun _ _ h => h, fun b o hb => cell_of_block (heap_alloc_old w _ (hi.grow.fwf b o hb)) o⟩
  have hrun : (execOp a.eval o).run P w = .ok (.value (.slice (some ⟨w.heap.size, 0, none⟩) len len)) (w.alloc (.cells cells' e)) := by
    unfold execOp
    rw [ho]
    refine run_v ?_
    have hm : (parts.map fun x => (x.fst, a.eval x.snd)).toList = parts.toList.map fun (i, x) => (i, a.eval x) := by simp
    have q1' : Instr.fill (fun i => some (i * sz, sz)) ((Array.range (len * sz)).map (fun i => (if len * sz = 0 then #[] else z.cells)[i % (if len * sz = 0 then #[] else z.cells).size]!)) (parts.map fun x => (x.fst, a.eval x.snd)).toList = some cells' := by rw [hm]; exact q1
    simp only [Instr.buildSlice, Sem.run_bind, run_underlying ht, Result.andThen_ok, run_sizeOf hs]
    rw [if_neg (by omega)]
    by_cases hl0 : len * sz = 0
    · simp only [if_pos hl0] at q1' ⊢
      simp only [Sem.run_bind, Sem.run_pure, Result.andThen_ok, q1', newRow, run_newObj, World.alloc_eq]
    · simp only [if_neg hl0] at q1' ⊢
      simp only [Sem.run_bind, Sem.run_pure, Result.andThen_ok, hz1, q1', newRow, run_newObj, World.alloc_eq]
  unfold Oper.wp
  rw [hrun]
  rw [hd] at q6
  show GdE w O F0 w0 K (a.put o.dst _) _
  rw [hd]
  refine ⟨?_, fun b hb => heap_alloc_old w _ hb⟩
  refine ⟨_, _, F, (hi'.bind d (.slice (some ⟨w.heap.size, 0, none⟩) len len) (.vec e sz xs') ?_ ?_).put d (mk_ow (k := d) (by simp [upd])), q6⟩
  · refine ⟨.slice (some ⟨w.heap.size, 0, none⟩) len len, by simp [upd], q3, ?_⟩
    by_cases hl0 : len = 0
    · subst hl0
      exact .inl ⟨List.eq_nil_of_length_eq_zero hlen, _, rfl⟩
    · have htk : cells'.toList.take (xs'.length * sz) = cells'.toList := List.take_of_length_le (by rw [hlen, Array.length_toList, hsize]; exact Nat.le_refl _)
      refine .inr ⟨w.heap.size, len, cells', by rw [hlen], by omega, .inl hi.grow.size, fun o ho => Nat.lt_irrefl _ (hi.grow.fwf _ o ho), heap_alloc_new w _, by omega, by simp only [maxLen]; have := Nat.le_mul_of_pos_right len h0; omega, hsize, by rw [htk]; exact q5, by rw [htk]; exact q4.mono fun _ _ => RF.mono hkp _ _⟩
  · intro j blk' v b _ e1 e2 e3 e4
    simp only [hblk] at e4
    split at e4
    · cases e4
    · simp only [Option.some.injEq] at e4
      exact hi.fresh e1 e2 e3 e4.symm
end
end Go.Proofs.YtcolebkklojccaaGreat.E
