/-
  The engine, part J: cuts, lengths, parts of results, equality of aggregates.
-/
import Derived.Test.YtcolebkklojccaaGreatEngI
set_option linter.unusedVariables false
set_option linter.unusedSimpArgs false
set_option linter.unusedSimpArgs false
namespace Go.Proofs.YtcolebkklojccaaGreat.E
open Go

section
variable {P : Program} {O : Nat → Prop} {F0 : Frz} {w0 : World} {M : Hnd} {F : Frz} {a : Act} {w w' : World} {s : DS} {K : DS → Prop} {Q : Exit → Act → World → Prop} {o : Oper}

theorem run_sliceAt {t : TypeId} (h : (∃ e, P.underlying t = some (.slice e)) ∨ P.underlying t = some .string) (x : Value) (lo hi mx : Option Value) :
    (Instr.sliceAt t x lo hi mx).run P w = (Instr.slice t x lo hi mx).run P w := by
  rcases h with ⟨e, h⟩ | h <;> simp [Instr.sliceAt, run_underlying h]
theorem run_slice_of {t e : TypeId} {sz : Nat} (ht : P.underlying t = some (.slice e)) (hs : szT P e = some sz) {A : Option Addr} {len cap l h m : Nat} {lo hi mx : Option Value} (hb : (Instr.sliceBounds true len cap lo hi mx).run P w = .ok (l, h, m) w) :
    (Instr.sliceAt t (.slice A len cap) lo hi mx).run P w = .ok (.slice (if m = l then A else A.map (·.add (l * sz))) (h - l) (m - l)) w := by
  rw [run_sliceAt (.inl ⟨e, ht⟩)]
  simp only [Instr.slice, Sem.run_bind, run_underlying ht, Result.andThen_ok, hb, run_sizeOf hs, Sem.run_pure]
theorem sound_sub (hi : Inv O F0 w0 M F s.env s.mem a w) {t : TypeId} {x : Operand} {lo hi' mx : Option Operand} {ax : AX} {alo ahi amx : Option AX} {e : TypeId} {sz : Nat} (ho : o.op = .slice t x lo hi' mx) (ht : P.underlying t = some (.slice e)) (hs : szT P e = some sz)
    (hx : trX x = some ax) (hlo : trO lo = some alo) (hhi : trO hi' = some ahi) (hmx : trO mx = some amx)
    (hK : kSub sz (ev s.env ax) (evO s.env alo) (evO s.env ahi) (evO s.env amx) (kPut o.dst s K)) : o.wp P a w (Gd O F0 w0 K) Q := by
  have h1 := trX_ok hx hi
  have r1 := trO_ok hlo hi
  have r2 := trO_ok hhi hi
  have r3 := trO_ok hmx hi
  have fin : ∀ {v : Value} {d : DV}, (Instr.sliceAt t (a.eval x) (lo.map a.eval) (hi'.map a.eval) (mx.map a.eval)).run P w = .ok v w → RV M F w d v → kPut o.dst s K d → o.wp P a w (Gd O F0 w0 K) Q := by
    intro v d hr hR hk
    refine wp_put ?_ hi hR hk
    unfold execOp
    rw [ho]
    exact run_v hr
  have zero : ∀ {d : Option DV} {v : Option Value}, RO M F w d v → (d = some (.int .i64 0) ∨ ∃ k, d = some (.int k 0)) → ∃ k, v = some (.int k 0) := by
    intro d v hr hd
    have : ∃ k, d = some (.int k 0) := by rcases hd with h | h; exact ⟨_, h⟩; exact h
    obtain ⟨k, rfl⟩ := this
    obtain ⟨u, rfl, hu⟩ := hr
    exact ⟨k, by rw [RV_int hu]⟩
  have three : ∀ {A : Option Addr} {len cap : Nat} {dm : DV}, a.eval x = .slice A len cap → evO s.env amx = some dm → RO M F w (evO s.env amx) (mx.map a.eval) → subZ dm (evO s.env ahi) (evO s.env alo) (kPut o.dst s K .e0) → o.wp P a w (Gd O F0 w0 K) Q := by
    intro A len cap dm e1 hm r3 hK
    rw [hm] at r3
    cases dm <;> first | exact hK.elim | skip
    rename_i km nm
    obtain ⟨rfl, hK⟩ := hK
    obtain ⟨k3, e3⟩ := zero r3 (.inr ⟨_, rfl⟩)
    cases hh : evO s.env ahi with
    | none => rw [hh] at hK; exact hK.elim
    | some dh =>
      rw [hh] at hK r2
      cases dh <;> first | exact hK.elim | skip
      rename_i kh nh
      obtain ⟨rfl, hK⟩ := hK
      have hz : (evO s.env alo = none ∨ ∃ k, evO s.env alo = some (.int k 0)) ∧ kPut o.dst s K .e0 := by
        cases hl : evO s.env alo with
        | none => rw [hl] at hK; exact ⟨.inl rfl, hK⟩
        | some dl =>
          rw [hl] at hK
          cases dl <;> first | exact hK.elim | skip
          obtain ⟨rfl, hK⟩ := hK
          exact ⟨.inr ⟨_, rfl⟩, hK⟩
      obtain ⟨hlo', hk⟩ := hz
      obtain ⟨k2, e2⟩ := zero r2 (.inr ⟨_, rfl⟩)
      have hl1 : lo.map a.eval = none ∨ ∃ k, lo.map a.eval = some (.int k 0) := by
        rcases hlo' with h | ⟨k, h⟩
        · rw [h] at r1; exact .inl r1
        · rw [h] at r1; exact .inr (zero r1 (.inr ⟨_, rfl⟩))
      refine fin (v := .slice (if 0 = 0 then A else A.map (·.add (0 * sz))) (0 - 0) (0 - 0)) ?_ ?_ hk
      · rw [e1, e3, e2]
        refine run_slice_of ht hs ?_
        rcases hl1 with h | ⟨k, h⟩ <;> rw [h] <;> simp [Instr.sliceBounds, Instr.sliceBound, asIntOf]
      · show RF F w _ _
        rw [RF]
        exact ⟨_, rfl⟩
  cases hd1 : ev s.env ax <;> rw [hd1] at hK h1 <;> first | exact hK.elim | skip
  · rename_i z xs
    obtain ⟨A, cap, e1, c1, c2, c3, c4⟩ := RV_sl h1
    cases hm : evO s.env amx with
    | none =>
      rw [hm] at hK r3
      have e3 : mx.map a.eval = none := r3
      obtain ⟨l, h, b1, b2, b3, b4⟩ := bounds_ok (P := P) (isSlice := true) c1 (X := fun l h => z = sz ∧ kPut o.dst s K (.sl sz ((xs.take h).drop l))) r1 r2 (by
        have hK : bndK (evO s.env ahi) xs.length fun h => bndK (evO s.env alo) 0 fun l => z = sz ∧ l ≤ h ∧ h ≤ xs.length ∧ kPut o.dst s K (.sl sz ((xs.take h).drop l)) := hK
        have mono : ∀ (b : Option DV) (n : Nat) (X Y : Nat → Prop), (∀ n, X n → Y n) → bndK b n X → bndK b n Y := by
          intro b n X Y hXY hb
          cases b with
          | none => exact hXY _ hb
          | some d => cases d <;> first | exact hb.elim | exact ⟨hb.1, hXY _ hb.2⟩
        exact mono _ _ _ _ (fun h hb => mono _ _ _ _ (fun l ⟨q1, q2, q3, q4⟩ => ⟨q2, q3, q1, q4⟩) hb) hK)
      obtain ⟨rfl, b5⟩ := b4
      have hl : ((xs.take h).drop l).length = h - l := by simp; omega
      refine fin (v := .slice (if cap = l then A else A.map (·.add (l * z))) (h - l) (cap - l)) ?_ ?_ b5
      · rw [e1, e3]
        exact run_slice_of ht hs b1
      · show RF F w _ _
        rw [RF]
        refine ⟨if cap = l then A else A.map (·.add (l * z)), cap - l, by rw [hl], by omega, by omega, ?_, ?_⟩
        · intro hn
          split at hn
          · omega
          · cases A with
            | none => have := c3 rfl; omega
            | some ad => simp at hn
        · rcases c4 with c4 | ⟨b, off, rfl, c5⟩
          · subst c4; exact .inl (by simp)
          · by_cases hcl : cap = l
            · refine .inl ?_
              have : ((xs.take h).drop l).length = 0 := by omega
              exact List.eq_nil_of_length_eq_zero this
            · refine .inr ⟨b, off + l * z, by rw [if_neg hcl]; simp [Addr.add_lit], ?_⟩
              exact (c5.take h).drop l
    | some dm =>
      rw [hm] at hK
      exact three e1 hm r3 hK
  · obtain ⟨A, e1⟩ := RV_e0 h1
    cases hm : evO s.env amx with
    | none =>
      rw [hm] at hK r3
      have e3 : mx.map a.eval = none := r3
      obtain ⟨l, h, b1, b2, b3, b4⟩ := bounds_ok (P := P) (isSlice := true) (Nat.le_refl 0) (X := fun _ _ => kPut o.dst s K .e0) r1 r2 hK
      have hl : l = 0 := by omega
      have hh : h = 0 := by omega
      subst hl; subst hh
      refine fin (v := .slice (if 0 = 0 then A else A.map (·.add (0 * sz))) (0 - 0) (0 - 0)) ?_ ?_ b4
      · rw [e1, e3]
        exact run_slice_of ht hs b1
      · show RF F w _ _
        rw [RF]
        exact ⟨_, rfl⟩
    | some dm =>
      rw [hm] at hK
      exact three e1 hm r3 hK

theorem extract_mk (l : List UInt8) (a b : Nat) (h : b ≤ l.length) : (ByteArray.mk l.toArray).extract a b = ByteArray.mk ((l.take b).drop a).toArray := by
  apply ByteArray.ext
  simp [ByteArray.data_extract, List.extract_eq_take_drop, List.drop_take]
theorem sound_subs (hi : Inv O F0 w0 M F s.env s.mem a w) {t : TypeId} {x : Operand} {lo hi' : Option Operand} {ax : AX} {alo ahi : Option AX} (ho : o.op = .slice t x lo hi' none) (ht : P.underlying t = some .string)
    (hx : trX x = some ax) (hlo : trO lo = some alo) (hhi : trO hi' = some ahi)
    (hK : kSubs (ev s.env ax) (evO s.env alo) (evO s.env ahi) (kPut o.dst s K)) : o.wp P a w (Gd O F0 w0 K) Q := by
  have h1 := trX_ok hx hi
  have r1 := trO_ok hlo hi
  have r2 := trO_ok hhi hi
  cases hd1 : ev s.env ax <;> rw [hd1] at hK h1 <;> first | exact hK.elim | skip
  rename_i l
  obtain ⟨e1, e2⟩ := RV_str h1
  obtain ⟨u, h, b1, b2, b3, b4⟩ := bounds_ok (P := P) (isSlice := false) (Nat.le_refl l.length) (X := fun u h => kPut o.dst s K (.str ((l.take h).drop u))) r1 r2 hK
  refine wp_put (v := .string (ByteArray.mk ((l.take h).drop u).toArray)) ?_ hi (mk_str _ (by simp; omega)) b4
  unfold execOp
  rw [ho]
  refine run_v ?_
  simp only [Option.map_none]
  rw [run_sliceAt (.inr ht), e1]
  simp only [Instr.slice, Sem.run_bind, run_underlying ht, Result.andThen_ok, Option.isSome_none, Bool.false_eq_true, if_false, ofList_size, b1, Sem.run_pure]
  rw [extract_mk _ _ _ b3]

theorem run_builtin {b : Builtin} {xs : Array Operand} {ts : Array TypeId} {v : Value} {w' : World} (ho : o.op = .call { callee := .builtin b, args := xs, argTypes := ts })
    (h : ∀ cs, (builtin b ts o.type cs (xs.map a.eval)).run P w = .ok (.value v) w') : (execOp a.eval o).run P w = .ok (.value v) w' := by
  unfold execOp
  rw [ho]
  simp only [resolve, invoke, Sem.run_bind, Sem.run_pure, Result.andThen_ok, h]
theorem sound_len (hi : Inv O F0 w0 M F s.env s.mem a w) {t e : TypeId} {x : Operand} {ax : AX} (ho : o.op = .call { callee := .builtin .len, args := #[x], argTypes := #[t] }) (ht : P.underlying t = some (.slice e))
    (hx : trX x = some ax) (hK : kLen (ev s.env ax) s.mem (kPut o.dst s K)) : o.wp P a w (Gd O F0 w0 K) Q := by
  have h1 := trX_ok hx hi
  have fin : ∀ (A : Option Addr) (n c : Nat), a.eval x = .slice A n c → kPut o.dst s K (.int .i64 n) → o.wp P a w (Gd O F0 w0 K) Q := by
    intro A n c hv hk
    refine wp_put (v := .int .i64 n) (run_builtin ho fun cs => ?_) hi (mk_int _ _) hk
    simp [builtin, hv, Builtin.len_, run_underlying ht, goInt]
  cases hd1 : ev s.env ax <;> rw [hd1] at hK h1 <;> first | exact hK.elim | skip
  · obtain ⟨A, cap, e1, c1, c2, _⟩ := RV_sl h1
    exact fin _ _ _ e1 (hK (Nat.le_trans c1 c2))
  · obtain ⟨A, e1⟩ := RV_e0 h1
    exact fin _ _ _ e1 hK
  · rename_i k
    simp only [kLen] at hK
    cases hm : mget s.mem k with
    | none => rw [hm] at hK; exact hK.elim
    | some blk =>
      rw [hm] at hK
      cases blk with
      | box cs => exact hK.elim
      | mp kk es => exact hK.elim
      | vec e' s' xs =>
        obtain ⟨A, cap, e1, c1, c2, _⟩ := (hi.vec hm h1).slice
        exact fin _ _ _ e1 (hK (Nat.le_trans c1 c2))
theorem sound_lens (hi : Inv O F0 w0 M F s.env s.mem a w) {t : TypeId} {x : Operand} {ax : AX} (ho : o.op = .call { callee := .builtin .len, args := #[x], argTypes := #[t] }) (ht : P.underlying t = some .string)
    (hx : trX x = some ax) (hK : kLens (ev s.env ax) (kPut o.dst s K)) : o.wp P a w (Gd O F0 w0 K) Q := by
  have h1 := trX_ok hx hi
  cases hd1 : ev s.env ax <;> rw [hd1] at hK h1 <;> first | exact hK.elim | skip
  rename_i l
  obtain ⟨e1, e2⟩ := RV_str h1
  refine wp_put (v := .int .i64 l.length) (run_builtin ho fun cs => ?_) hi (mk_int _ _) (hK e2)
  simp [builtin, e1, Builtin.len_, run_underlying ht, goInt, ofList_size]
theorem sound_lenc (hi : Inv O F0 w0 M F s.env s.mem a w) {t e : TypeId} {n : Nat} {x : Operand} (ho : o.op = .call { callee := .builtin .len, args := #[x], argTypes := #[t] }) (ht : P.underlying t = some (.array n e))
    (hK : kPut o.dst s K (.int .i64 n)) : o.wp P a w (Gd O F0 w0 K) Q := by
  refine wp_put (v := .int .i64 n) (run_builtin ho fun cs => ?_) hi (mk_int _ _) hK
  simp [builtin, Builtin.len_, run_underlying ht, goInt]
theorem sound_ext (hi : Inv O F0 w0 M F s.env s.mem a w) {x : Operand} {i : Nat} {ax : AX} (ho : o.op = .extract x i) (hx : trX x = some ax) (hK : kExt (ev s.env ax) i (kPut o.dst s K)) : o.wp P a w (Gd O F0 w0 K) Q := by
  have h1 := trX_ok hx hi
  cases hd1 : ev s.env ax <;> rw [hd1] at hK h1 <;> first | exact hK.elim | skip
  rename_i vs
  obtain ⟨arr, e1, e2⟩ := RV_tup h1
  simp only [kExt] at hK
  cases hdr : vs.drop i with
  | nil => rw [hdr] at hK; exact hK.elim
  | cons d r =>
    rw [hdr] at hK
    have hd : vs[i]? = some d := by
      have : (vs.drop i)[0]? = some d := by rw [hdr]; rfl
      simpa using this
    obtain ⟨v, g1, g2⟩ := e2.get i d hd
    refine wp_put (v := v) ?_ hi (RV_of_RF g2) hK
    unfold execOp
    rw [ho]
    refine run_v ?_
    have : arr[i]? = some v := by simpa using g1
    simp only [Instr.extract, e1, this, Sem.run_pure]
theorem sound_mm (hi : Inv O F0 w0 M F s.env s.mem a w) {mx : Bool} {ts : Array TypeId} {x y : Operand} {ax ay : AX} (ho : o.op = .call { callee := .builtin (if mx then .max else .min), args := #[x, y], argTypes := ts })
    (hx : trX x = some ax) (hy : trX y = some ay) (hK : kMm mx (ev s.env ax) (ev s.env ay) (kPut o.dst s K)) : o.wp P a w (Gd O F0 w0 K) Q := by
  have h1 := trX_ok hx hi
  have h2 := trX_ok hy hi
  cases hd1 : ev s.env ax <;> rw [hd1] at hK h1 <;> first | exact hK.elim | skip
  rename_i k n
  cases hd2 : ev s.env ay <;> rw [hd2] at hK h2 <;> first | exact hK.elim | skip
  rename_i k' n'
  obtain ⟨rfl, hk⟩ := hK
  refine wp_put (v := .int k (if mx then (if n' > n then n' else n) else (if n' < n then n' else n))) (run_builtin ho fun cs => ?_) hi (mk_int _ _) hk
  cases mx <;> simp [builtin, RV_int h1, RV_int h2, Builtin.max_, Builtin.min_, Builtin.max2, Builtin.min2]
theorem sound_conv (hi : Inv O F0 w0 M F s.env s.mem a w) {src dst : TypeId} {k0 k : IntKind} {x : Operand} {ax : AX} (ho : o.op = .convert src dst x) (hs : P.underlying src = some (.int k0)) (hd : P.underlying dst = some (.int k))
    (hx : trX x = some ax) (hK : kConv k (ev s.env ax) (kPut o.dst s K)) : o.wp P a w (Gd O F0 w0 K) Q := by
  have h1 := trX_ok hx hi
  cases hd1 : ev s.env ax <;> rw [hd1] at hK h1 <;> first | exact hK.elim | skip
  rename_i k' n
  refine wp_put (v := .int k (k.wrap n)) ?_ hi (mk_int _ _) hK
  unfold execOp
  rw [ho]
  refine run_v ?_
  simp [convert, run_underlying hs, run_underlying hd, RV_int h1, Conv.intToInt]
theorem sound_convs (hi : Inv O F0 w0 M F s.env s.mem a w) {src dst : TypeId} {x : Operand} {ax : AX} (ho : o.op = .convert src dst x) (hs : P.underlying src = some .string) (hd : P.underlying dst = some .string)
    (hx : trX x = some ax) (hK : kStr (ev s.env ax) (kPut o.dst s K)) : o.wp P a w (Gd O F0 w0 K) Q := by
  have h1 := trX_ok hx hi
  cases hd1 : ev s.env ax <;> rw [hd1] at hK h1 <;> first | exact hK.elim | skip
  rename_i l
  refine wp_put (v := a.eval x) ?_ hi h1 hK
  unfold execOp
  rw [ho]
  refine run_v ?_
  simp [convert, run_underlying hs, run_underlying hd, (RV_str h1).1]

/-! ### '==' of arrays and structs of plain cells -/
theorem eqP_ok {t : TypeId} {k : PK} (ht : plainEq P t = some k) {x y : DV} {u v : Value} (hx : RF F w x u) (hy : RF F w y v) {r : Bool} (h : eqP k x y = some r) (d : Nat) : (Op.equalIn (d + 1) t u v).run P w = .ok r w := by
  unfold plainEq at ht
  cases k <;> cases x <;> try (simp [eqP] at h; done)
  all_goals cases y <;> try (simp [eqP] at h; done)
  · rw [RF] at hx hy
    subst hx; subst hy
    simp only [eqP, Option.some.injEq] at h
    subst h
    split at ht <;> first | (cases ht; done) | skip
    rename_i hu
    exact run_equalIn_bool w d t _ _ hu
  · rw [RF] at hx hy
    subst hx; subst hy
    simp only [eqP] at h
    split at h
    · rename_i hk
      subst hk
      cases h
      split at ht <;> first | (cases ht; done) | skip
      rename_i k' hu
      exact run_equalIn_int w d t _ k' _ _ hu
    · cases h
  · rw [RF] at hx hy
    obtain ⟨rfl, _⟩ := hx
    obtain ⟨rfl, _⟩ := hy
    simp only [eqP, Option.some.injEq] at h
    subst h
    split at ht <;> first | (cases ht; done) | skip
    rename_i hu
    rw [run_equalIn_string w d t _ _ hu, ByteArray.toList_mk, ByteArray.toList_mk]
theorem part_plain {t : TypeId} {k : PK} (ht : plainEq P t = some k) {arr : Array Value} {i : Nat} {u : Value} (h : arr.toList[i]? = some u) : (part t arr i).run P w = .ok u w := by
  unfold plainEq at ht
  have h' : arr[i]? = some u := by simpa using h
  split at ht <;> first | (cases ht; done) | skip
  all_goals
    rename_i hu
    simp only [part, Sem.run_bind, run_isAgg hu, Result.andThen_ok, isAggD, Bool.false_eq_true, if_false, h', Sem.run_pure]
theorem eqFields_ok {xs ys : Array Value} {cs ds : List DV} (hx : All2 (RF F w) cs xs.toList) (hy : All2 (RF F w) ds ys.toList) (d : Nat) : ∀ (fs : List Field) (i : Nat) (ks : List PK), flatFs P i fs = some ks →
    ∀ r, eqPs ks (cs.drop i) (ds.drop i) = some r → (Op.eqFields (d + 1) xs ys fs).run P w = .ok r w
  | [], i, ks, hf, r, h => by
      simp only [flatFs, Option.some.injEq] at hf; subst hf
      cases hc : cs.drop i <;> cases hd : ds.drop i <;> rw [hc, hd] at h <;> simp [eqPs] at h
      subst h
      simp [Op.eqFields]
  | f :: fs, i, ks, hf, r, h => by
      simp only [flatFs] at hf
      split at hf <;> first | (cases hf; done) | skip
      rename_i k ks' hk hks
      split at hf <;> first | (cases hf; done) | skip
      rename_i hc
      cases hf
      simp only [Bool.and_eq_true, beq_iff_eq, bne_iff_ne] at hc
      cases h1 : cs.drop i with
      | nil => rw [h1] at h; cases hd : ds.drop i <;> rw [hd] at h <;> simp [eqPs] at h
      | cons c cr =>
        cases h2 : ds.drop i with
        | nil => rw [h1, h2] at h; simp [eqPs] at h
        | cons e er =>
          rw [h1, h2] at h
          simp only [eqPs] at h
          have e1 : cs[i]? = some c := by
            have : (cs.drop i)[0]? = some c := by rw [h1]; rfl
            simpa using this
          have e2 : ds[i]? = some e := by
            have : (ds.drop i)[0]? = some e := by rw [h2]; rfl
            simpa using this
          obtain ⟨u, u1, u2⟩ := hx.get i c e1
          obtain ⟨v, v1, v2⟩ := hy.get i e e2
          have hcr : cs.drop (i + 1) = cr := by rw [← List.drop_drop, h1]; rfl
          have her : ds.drop (i + 1) = er := by rw [← List.drop_drop, h2]; rfl
          cases hp : eqP k c e with
          | none => rw [hp] at h; simp [andO] at h
          | some x =>
            cases hq : eqPs ks' cr er with
            | none => rw [hp, hq] at h; simp [andO] at h
            | some y =>
              rw [hp, hq] at h
              simp only [andO, Option.some.injEq] at h
              subst h
              have ih := eqFields_ok hx hy d fs (i + 1) ks' hks y (by rw [hcr, her]; exact hq)
              simp only [Op.eqFields, ne_eq, hc.2, not_false_eq_true, if_true, hc.1, Sem.run_bind, part_plain hk u1, part_plain hk v1, Result.andThen_ok, eqP_ok hk u2 v2 hp d]
              cases x <;> simp [ih]
theorem eqItems_ok {e : TypeId} {k : PK} (he : plainEq P e = some k) {xs ys : Array Value} {cs ds : List DV} (hx : All2 (RF F w) cs xs.toList) (hy : All2 (RF F w) ds ys.toList) (d : Nat) : ∀ (n i : Nat) (r : Bool),
    eqPs (List.replicate n k) (cs.drop i) (ds.drop i) = some r → (Op.eqItems (d + 1) e 1 xs ys (List.range' i n)).run P w = .ok r w
  | 0, i, r, h => by
      cases hc : cs.drop i <;> cases hd : ds.drop i <;> rw [hc, hd] at h <;> simp [eqPs] at h
      subst h
      simp [Op.eqItems]
  | n + 1, i, r, h => by
      rw [List.replicate_succ] at h
      cases h1 : cs.drop i with
      | nil => rw [h1] at h; cases hd : ds.drop i <;> rw [hd] at h <;> simp [eqPs] at h
      | cons c cr =>
        cases h2 : ds.drop i with
        | nil => rw [h1, h2] at h; simp [eqPs] at h
        | cons f er =>
          rw [h1, h2] at h
          simp only [eqPs] at h
          have e1 : cs[i]? = some c := by
            have : (cs.drop i)[0]? = some c := by rw [h1]; rfl
            simpa using this
          have e2 : ds[i]? = some f := by
            have : (ds.drop i)[0]? = some f := by rw [h2]; rfl
            simpa using this
          obtain ⟨u, u1, u2⟩ := hx.get i c e1
          obtain ⟨v, v1, v2⟩ := hy.get i f e2
          have hcr : cs.drop (i + 1) = cr := by rw [← List.drop_drop, h1]; rfl
          have her : ds.drop (i + 1) = er := by rw [← List.drop_drop, h2]; rfl
          cases hp : eqP k c f with
          | none => rw [hp] at h; simp [andO] at h
          | some x =>
            cases hq : eqPs (List.replicate n k) cr er with
            | none => rw [hp, hq] at h; simp [andO] at h
            | some y =>
              rw [hp, hq] at h
              simp only [andO, Option.some.injEq] at h
              subst h
              have ih := eqItems_ok he hx hy d n (i + 1) y (by rw [hcr, her]; exact hq)
              simp only [List.range'_succ, Op.eqItems, Nat.mul_one, Sem.run_bind, part_plain he u1, part_plain he v1, Result.andThen_ok, eqP_ok he u2 v2 hp d]
              cases x <;> simp [ih]
theorem sound_eqa (hi : Inv O F0 w0 M F s.env s.mem a w) {ne : Bool} {t t' : TypeId} {x y : Operand} {ax ay : AX} {ks : List PK} (ho : o.op = .binOp (if ne then .neq else .eql) t x y t') (ht : flatEq P t = some ks)
    (hx : trX x = some ax) (hy : trX y = some ay) (hK : kEqa ne ks (ev s.env ax) (ev s.env ay) (kPut o.dst s K)) : o.wp P a w (Gd O F0 w0 K) Q := by
  have h1 := trX_ok hx hi
  have h2 := trX_ok hy hi
  cases hd1 : ev s.env ax <;> rw [hd1] at hK h1 <;> first | exact hK.elim | skip
  rename_i cs
  cases hd2 : ev s.env ay <;> rw [hd2] at hK h2 <;> first | exact hK.elim | skip
  rename_i ds
  obtain ⟨xs, e1, _, g1⟩ := RV_agg h1
  obtain ⟨ys, e2, _, g2⟩ := RV_agg h2
  simp only [kEqa] at hK
  cases hr : eqPs ks cs ds with
  | none => rw [hr] at hK; exact hK.elim
  | some r =>
    rw [hr] at hK
    have hK : kPut o.dst s K (.bool (if ne then !r else r)) := hK
    unfold flatEq at ht
    split at ht
    · cases ht
    · rename_i hg
      have heq : (Op.equal t (.agg xs) (.agg ys)).run P w = .ok r w := by
        unfold Op.equal Op.maxDepth
        split at ht
        · rename_i n e hu
          split at ht
          · rename_i k hk hsz
            cases ht
            simp only [szT, Option.map_eq_some_iff] at hsz
            obtain ⟨i, hinf, hsz⟩ := hsz
            have hc1 : P.cellsOf e = 1 := by simp [Program.cellsOf, hinf, hsz]
            rw [run_equalIn_array w 9999 xs ys hu hinf, hc1, List.range_eq_range']
            exact eqItems_ok hk g1 g2 9998 n 0 r (by simpa using hr)
          · cases ht
        · rename_i fs hu
          split at ht
          · cases ht
          · rename_i hst
            have hfo : P.fieldsOf t = fs := by simp [Program.fieldsOf, hu]
            rw [run_equalIn_struct w 9999 t xs ys (by rw [hfo]; exact hu) (by simpa using hst), hfo]
            exact eqFields_ok g1 g2 9998 fs.toList 0 ks ht r (by simpa using hr)
        · cases ht
      have hguard : ∀ op, (eqGuard op t x y (.agg xs) (.agg ys)).run P w = .ok () w := by
        intro op
        have hg' : P.eqGuardType P.depth t = false := by simpa using hg
        unfold eqGuard
        cases op <;> simp [hg']
      refine wp_put (v := .bool (if ne then !r else r)) ?_ hi (mk_bool _) hK
      unfold execOp
      rw [ho]
      refine run_v ?_
      rw [e1, e2]
      simp only [Sem.run_bind, hguard, Result.andThen_ok]
      cases ne <;> simp [binOp, heq]
end
end Go.Proofs.YtcolebkklojccaaGreat.E
