/-
  The engine, part A: data-level values, what it means that a value reads as one, and how that is kept.
-/
import Derived.WalkKit
import Derived.Deep.LoopGhost
set_option linter.unusedVariables false
set_option linter.unusedSimpArgs false
namespace Go.Proofs.YtcolebkklojccaaGreat.E
open Go

/-- data-level values: frozen ones (deep), and handles of what the activation owns -/
inductive DV where
  | any
  | bool (b : Bool)
  | int (k : IntKind) (n : Int)
  | str (s : List UInt8)
  | agg (cs : List DV)
  | tup (vs : List DV)
  | sl (sz : Nat) (xs : List (List DV))
  | pf (cs : List DV)
  | e0
  | fn (f : Nat) (cap : List DV)
  | nilp
  | nilfn
  | nili
  | ifc (t : Nat) (v : DV)
  | aggm (cs : List DV)
  | ml (k off : Nat)
  | ve (k sz i off : Nat)
  | ow (k : Nat)

instance : Inhabited DV := ⟨.any⟩

abbrev Frz := Nat → Nat → Prop

mutual
def RF (F : Frz) (w : World) : DV → Value → Prop
  | .any, _ => True
  | .bool b, v => v = .bool b
  | .int k n, v => v = .int k n
  | .str s, v => v = .string ⟨s.toArray⟩ ∧ s.length ≤ maxLen
  | .agg cs, v => ∃ arr : Array Value, v = .agg arr ∧ (∀ u ∈ arr.toList, u.oneCell' = true) ∧ RFs F w cs arr.toList
  | .tup cs, v => ∃ arr : Array Value, v = .tuple arr ∧ RFs F w cs arr.toList
  | .sl sz xs, v => ∃ A cap, v = .slice A xs.length cap ∧ xs.length ≤ cap ∧ cap ≤ maxLen ∧ (A = none → cap = 0) ∧
      (xs = [] ∨ ∃ b off, A = some ⟨b, off, none⟩ ∧ RFE F w xs sz b off)
  | .pf cs, v => ∃ b off, v = .pointer (some ⟨b, off, none⟩) ∧ RFC F w cs b off
  | .e0, v => ∃ A, v = .slice A 0 0
  | .fn f cap, v => ∃ arr : Array Value, v = .func (.func f) #[] arr ∧ RFs F w cap arr.toList
  | .nilp, v => v = .pointer none
  | .nilfn, v => v = .nilFunc
  | .nili, v => v = .nilIface
  | .ifc t d, v => ∃ u, v = .iface t u ∧ RF F w d u
  | .aggm _, _ => False
  | .ml _ _, _ => False
  | .ve _ _ _ _, _ => False
  | .ow _, _ => False
def RFs (F : Frz) (w : World) : List DV → List Value → Prop
  | [], us => us = []
  | c :: cs, us => ∃ u r, us = u :: r ∧ RF F w c u ∧ RFs F w cs r
def RFC (F : Frz) (w : World) : List DV → Nat → Nat → Prop
  | [], _, _ => True
  | c :: cs, b, off => (∃ u, w.cell? ⟨b, off, none⟩ = some u ∧ (F b off ∧ u.oneCell' = true) ∧ RF F w c u) ∧ RFC F w cs b (off + 1)
def RFE (F : Frz) (w : World) : List (List DV) → Nat → Nat → Nat → Prop
  | [], _, _, _ => True
  | x :: xs, sz, b, off => x.length = sz ∧ RFC F w x b off ∧ RFE F w xs sz b (off + sz)
end

/-- what F freezes is frozen by F', and reads in w' as in w -/
structure Keeps (F : Frz) (w : World) (F' : Frz) (w' : World) : Prop where
  sub : ∀ b o, F b o → F' b o
  same : ∀ b o, F b o → w'.cell? ⟨b, o, none⟩ = w.cell? ⟨b, o, none⟩

theorem Keeps.refl (F : Frz) (w : World) : Keeps F w F w := ⟨fun _ _ h => h, fun _ _ _ => rfl⟩
theorem Keeps.trans {F F' F'' : Frz} {w w' w'' : World} (h : Keeps F w F' w') (k : Keeps F' w' F'' w'') : Keeps F w F'' w'' :=
  ⟨fun b o x => k.sub b o (h.sub b o x), fun b o x => (k.same b o (h.sub b o x)).trans (h.same b o x)⟩

section
variable {F F' : Frz} {w w' : World}
mutual
theorem RF.mono (hk : Keeps F w F' w') : ∀ d v, RF F w d v → RF F' w' d v
  | .any, _, _ => by rw [RF]; trivial
  | .bool b, v, h => by rw [RF] at *; exact h
  | .int k n, v, h => by rw [RF] at *; exact h
  | .str s, v, h => by rw [RF] at *; exact h
  | .agg cs, v, h => by rw [RF] at *; obtain ⟨arr, e, h1, h⟩ := h; exact ⟨arr, e, h1, RFs.mono hk cs _ h⟩
  | .tup cs, v, h => by rw [RF] at *; obtain ⟨arr, e, h⟩ := h; exact ⟨arr, e, RFs.mono hk cs _ h⟩
  | .sl sz xs, v, h => by
      rw [RF] at *
      obtain ⟨A, cap, e, h1, h2, h3, h4⟩ := h
      refine ⟨A, cap, e, h1, h2, h3, ?_⟩
      rcases h4 with h4 | ⟨b, off, e2, h5⟩
      · exact .inl h4
      · exact .inr ⟨b, off, e2, RFE.mono hk xs _ _ _ h5⟩
  | .pf cs, v, h => by rw [RF] at *; obtain ⟨b, off, e, h⟩ := h; exact ⟨b, off, e, RFC.mono hk cs _ _ h⟩
  | .e0, v, h => by rw [RF] at *; exact h
  | .fn f cap, v, h => by rw [RF] at *; obtain ⟨arr, e, h⟩ := h; exact ⟨arr, e, RFs.mono hk cap _ h⟩
  | .nilp, v, h => by rw [RF] at *; exact h
  | .nilfn, v, h => by rw [RF] at *; exact h
  | .nili, v, h => by rw [RF] at *; exact h
  | .ifc t d, v, h => by rw [RF] at *; obtain ⟨u, e, h⟩ := h; exact ⟨u, e, RF.mono hk d _ h⟩
  | .aggm _, v, h => by rw [RF] at h; exact h.elim
  | .ml _ _, v, h => by rw [RF] at h; exact h.elim
  | .ve _ _ _ _, v, h => by rw [RF] at h; exact h.elim
  | .ow _, v, h => by rw [RF] at h; exact h.elim
theorem RFs.mono (hk : Keeps F w F' w') : ∀ ds vs, RFs F w ds vs → RFs F' w' ds vs
  | [], vs, h => by rw [RFs] at *; exact h
  | c :: cs, vs, h => by rw [RFs] at *; obtain ⟨u, r, e, h1, h2⟩ := h; exact ⟨u, r, e, RF.mono hk c _ h1, RFs.mono hk cs _ h2⟩
theorem RFC.mono (hk : Keeps F w F' w') : ∀ ds b off, RFC F w ds b off → RFC F' w' ds b off
  | [], _, _, _ => by rw [RFC]; trivial
  | c :: cs, b, off, h => by
      rw [RFC] at *
      obtain ⟨⟨u, h1, h2, h3⟩, h4⟩ := h
      exact ⟨⟨u, (hk.same _ _ h2.1).trans h1, ⟨hk.sub _ _ h2.1, h2.2⟩, RF.mono hk c _ h3⟩, RFC.mono hk cs _ _ h4⟩
theorem RFE.mono (hk : Keeps F w F' w') : ∀ xs sz b off, RFE F w xs sz b off → RFE F' w' xs sz b off
  | [], _, _, _, _ => by rw [RFE]; trivial
  | x :: xs, sz, b, off, h => by
      rw [RFE] at *
      exact ⟨h.1, RFC.mono hk x _ _ h.2.1, RFE.mono hk xs _ _ _ h.2.2⟩
end
end

/-! ### lists of cells -/
section
variable {F : Frz} {w : World}
theorem RFs.length : ∀ {ds vs}, RFs F w ds vs → vs.length = ds.length
  | [], vs, h => by rw [RFs] at h; subst h; rfl
  | c :: cs, vs, h => by rw [RFs] at h; obtain ⟨u, r, rfl, _, h2⟩ := h; simp [RFs.length h2]
theorem RFs.get : ∀ {ds vs}, RFs F w ds vs → ∀ (i : Nat) d, ds[i]? = some d → ∃ v, vs[i]? = some v ∧ RF F w d v
  | [], vs, h, i, d, hi => by simp at hi
  | c :: cs, vs, h, 0, d, hi => by rw [RFs] at h; obtain ⟨u, r, rfl, h1, h2⟩ := h; simp at hi; subst hi; exact ⟨u, rfl, h1⟩
  | c :: cs, vs, h, i + 1, d, hi => by rw [RFs] at h; obtain ⟨u, r, rfl, h1, h2⟩ := h; simpa using RFs.get h2 i d (by simpa using hi)
theorem RFs.of_get : ∀ {ds vs}, vs.length = ds.length → (∀ (i : Nat) d v, ds[i]? = some d → vs[i]? = some v → RF F w d v) → RFs F w ds vs
  | [], vs, hl, h => by rw [RFs]; exact List.eq_nil_of_length_eq_zero hl
  | c :: cs, [], hl, h => by simp at hl
  | c :: cs, u :: r, hl, h => by
      rw [RFs]
      exact ⟨u, r, rfl, h 0 c u rfl rfl, RFs.of_get (by simpa using hl) fun i d v h1 h2 => h (i + 1) d v (by simpa using h1) (by simpa using h2)⟩
theorem RFs.append {as bs us vs} (h : RFs F w as us) (k : RFs F w bs vs) : RFs F w (as ++ bs) (us ++ vs) := by
  induction as generalizing us with
  | nil => rw [RFs] at h; subst h; exact k
  | cons a as ih => rw [RFs] at h; obtain ⟨u, r, rfl, h1, h2⟩ := h; rw [List.cons_append, List.cons_append, RFs]; exact ⟨u, _, rfl, h1, ih h2⟩
theorem RFs.take {ds vs} (h : RFs F w ds vs) (n : Nat) : RFs F w (ds.take n) (vs.take n) :=
  RFs.of_get (by simp [h.length]) fun i d v h1 h2 => by
    rw [List.getElem?_take] at h1 h2
    split at h1
    · rename_i hi
      rw [if_pos hi] at h2
      obtain ⟨v', e, r⟩ := h.get i d h1
      rw [h2] at e; cases e; exact r
    · cases h1
theorem RFs.drop {ds vs} (h : RFs F w ds vs) (n : Nat) : RFs F w (ds.drop n) (vs.drop n) :=
  RFs.of_get (by simp [h.length]) fun i d v h1 h2 => by
    rw [List.getElem?_drop] at h1 h2
    obtain ⟨v', e, r⟩ := h.get _ d h1
    rw [h2] at e; cases e; exact r
theorem RFs.set {ds vs} (h : RFs F w ds vs) (n : Nat) {d v} (hd : RF F w d v) : RFs F w (ds.set n d) (vs.set n v) :=
  RFs.of_get (by simp [h.length]) fun i d' v' h1 h2 => by
    rw [List.getElem?_set] at h1 h2
    have hl := h.length
    split at h1
    · rename_i hi
      subst hi
      rw [if_pos rfl] at h2
      split at h1
      · split at h2
        · cases h1; cases h2; exact hd
        · cases h2
      · cases h1
    · rename_i hi
      rw [if_neg hi] at h2
      obtain ⟨v'', e, r⟩ := h.get i d' h1
      rw [h2] at e; cases e; exact r

theorem RFC.get : ∀ {ds b off}, RFC F w ds b off → ∀ (i : Nat) d, ds[i]? = some d → ∃ v, w.cell? ⟨b, off + i, none⟩ = some v ∧ (F b (off + i) ∧ v.oneCell' = true) ∧ RF F w d v
  | [], _, _, _, i, d, hi => by simp at hi
  | c :: cs, b, off, h, 0, d, hi => by rw [RFC] at h; obtain ⟨⟨u, h1, h2, h3⟩, h4⟩ := h; simp at hi; subst hi; exact ⟨u, h1, h2, h3⟩
  | c :: cs, b, off, h, i + 1, d, hi => by
      rw [RFC] at h
      obtain ⟨v, e1, e2, e3⟩ := RFC.get h.2 i d (by simpa using hi)
      refine ⟨v, ?_, ?_, e3⟩
      · rw [← e1]; congr 2; omega
      · have : off + (i + 1) = off + 1 + i := by omega
        rw [this]; exact e2
theorem RFC.of_get : ∀ {ds b off}, (∀ (i : Nat) d, ds[i]? = some d → ∃ v, w.cell? ⟨b, off + i, none⟩ = some v ∧ (F b (off + i) ∧ v.oneCell' = true) ∧ RF F w d v) → RFC F w ds b off
  | [], _, _, _ => by rw [RFC]; trivial
  | c :: cs, b, off, h => by
      rw [RFC]
      refine ⟨?_, RFC.of_get fun i d hi => ?_⟩
      · simpa using h 0 c rfl
      · have := h (i + 1) d (by simpa using hi)
        have e : off + 1 + i = off + (i + 1) := by omega
        rw [e]; exact this
theorem RFC.drop {ds b off} (h : RFC F w ds b off) (n : Nat) : RFC F w (ds.drop n) b (off + n) :=
  RFC.of_get fun i d hi => by
    rw [List.getElem?_drop] at hi
    have := h.get _ d hi
    rw [Nat.add_assoc]; exact this
theorem RFC.take {ds b off} (h : RFC F w ds b off) (n : Nat) : RFC F w (ds.take n) b off :=
  RFC.of_get fun i d hi => by
    rw [List.getElem?_take] at hi
    split at hi
    · exact h.get _ d hi
    · cases hi
theorem RFC.append {as bs b off} (h : RFC F w as b off) (k : RFC F w bs b (off + as.length)) : RFC F w (as ++ bs) b off := by
  induction as generalizing off with
  | nil => simpa using k
  | cons a as ih =>
    rw [RFC] at h
    rw [List.cons_append, RFC]
    refine ⟨h.1, ih h.2 ?_⟩
    rw [List.length_cons] at k
    have e : off + 1 + as.length = off + (as.length + 1) := by omega
    rw [e]; exact k

theorem RFE.get : ∀ {xs sz b off}, RFE F w xs sz b off → ∀ (i : Nat) x, xs[i]? = some x → x.length = sz ∧ RFC F w x b (off + i * sz)
  | [], _, _, _, _, i, x, hi => by simp at hi
  | c :: cs, sz, b, off, h, 0, x, hi => by rw [RFE] at h; simp at hi; subst hi; simpa using ⟨h.1, h.2.1⟩
  | c :: cs, sz, b, off, h, i + 1, x, hi => by
      rw [RFE] at h
      have := RFE.get h.2.2 i x (by simpa using hi)
      have e : off + (i + 1) * sz = off + sz + i * sz := by rw [Nat.add_mul]; omega
      rw [e]; exact this
theorem RFE.of_get : ∀ {xs sz b off}, (∀ (i : Nat) x, xs[i]? = some x → x.length = sz ∧ RFC F w x b (off + i * sz)) → RFE F w xs sz b off
  | [], _, _, _, _ => by rw [RFE]; trivial
  | c :: cs, sz, b, off, h => by
      rw [RFE]
      have h0 := h 0 c rfl
      refine ⟨h0.1, by simpa using h0.2, RFE.of_get fun i x hi => ?_⟩
      have := h (i + 1) x (by simpa using hi)
      have e : off + sz + i * sz = off + (i + 1) * sz := by rw [Nat.add_mul]; omega
      rw [e]; exact this
theorem RFE.drop {xs sz b off} (h : RFE F w xs sz b off) (n : Nat) : RFE F w (xs.drop n) sz b (off + n * sz) :=
  RFE.of_get fun i x hi => by
    rw [List.getElem?_drop] at hi
    have := h.get _ x hi
    have e : off + n * sz + i * sz = off + (n + i) * sz := by rw [Nat.add_mul]; omega
    rw [e]; exact this
theorem RFE.take {xs sz b off} (h : RFE F w xs sz b off) (n : Nat) : RFE F w (xs.take n) sz b off :=
  RFE.of_get fun i x hi => by
    rw [List.getElem?_take] at hi
    split at hi
    · exact h.get _ x hi
    · cases hi
/-- the elements' cells, one behind the other -/
theorem RFE.flat : ∀ {xs sz b off}, RFE F w xs sz b off → RFC F w xs.flatten b off
  | [], _, _, _, _ => by rw [List.flatten_nil, RFC]; trivial
  | x :: xs, sz, b, off, h => by
      rw [RFE] at h
      rw [List.flatten_cons]
      refine RFC.append h.2.1 ?_
      rw [h.1]; exact RFE.flat h.2.2
theorem RFE.sizes {xs sz b off} (h : RFE F w xs sz b off) : ∀ x ∈ xs, x.length = sz := by
  intro x hx
  obtain ⟨i, hi⟩ := List.getElem?_of_mem hx
  exact (h.get i x hi).1
theorem flat_length {sz : Nat} : ∀ {xs : List (List DV)}, (∀ x ∈ xs, x.length = sz) → xs.flatten.length = xs.length * sz
  | [], _ => by simp
  | x :: xs, h => by
      rw [List.flatten_cons, List.length_append, flat_length (fun y hy => h y (List.mem_cons_of_mem _ hy)), h x (List.mem_cons_self ..), List.length_cons, Nat.add_mul]
      omega
theorem flat_drop {sz : Nat} : ∀ {xs : List (List DV)} (n : Nat), (∀ x ∈ xs, x.length = sz) → xs.flatten.drop (n * sz) = (xs.drop n).flatten
  | xs, 0, _ => by simp
  | [], n + 1, _ => by simp
  | x :: xs, n + 1, h => by
      have hx := h x (List.mem_cons_self ..)
      rw [List.flatten_cons, List.drop_succ_cons, ← flat_drop n (fun y hy => h y (List.mem_cons_of_mem _ hy)), Nat.add_mul, Nat.one_mul, List.drop_append, hx,
        List.drop_of_length_le (by omega), List.nil_append, Nat.add_sub_cancel]
theorem flat_take {sz : Nat} : ∀ {xs : List (List DV)} (n : Nat), (∀ x ∈ xs, x.length = sz) → xs.flatten.take (n * sz) = (xs.take n).flatten
  | xs, 0, _ => by simp
  | [], n + 1, _ => by simp
  | x :: xs, n + 1, h => by
      have hx := h x (List.mem_cons_self ..)
      rw [List.flatten_cons, List.take_succ_cons, List.flatten_cons, ← flat_take n (fun y hy => h y (List.mem_cons_of_mem _ hy)), Nat.add_mul, Nat.one_mul, List.take_append, hx]
      congr 1
      · exact List.take_of_length_le (by omega)
      · congr 1; omega
/-- from cells to elements -/
theorem RFE.of_flat : ∀ {xs sz b off}, (∀ x ∈ xs, x.length = sz) → RFC F w xs.flatten b off → RFE F w xs sz b off
  | [], _, _, _, _, _ => by rw [RFE]; trivial
  | x :: xs, sz, b, off, hs, h => by
      have hx := hs x (List.mem_cons_self ..)
      rw [RFE]
      rw [List.flatten_cons] at h
      refine ⟨hx, ?_, RFE.of_flat (fun y hy => hs y (List.mem_cons_of_mem _ hy)) ?_⟩
      · have := h.take x.length; simpa using this
      · have := h.drop x.length; rw [hx] at this; simpa [← hx] using this

/-- the cells at an address, loaded -/
theorem RFC.load {P : Program} {ds b off} (h : RFC F w ds b off) : ∃ arr : Array Value, (loadCells ⟨b, off, none⟩ ds.length).run P w = .ok arr w ∧ (∀ u ∈ arr.toList, u.oneCell' = true) ∧ RFs F w ds arr.toList := by
  have hx : ∃ l : List Value, l.length = ds.length ∧ (∀ (i : Nat) v, l[i]? = some v → w.cell? ⟨b, off + i, none⟩ = some v) ∧ (∀ u ∈ l, u.oneCell' = true) ∧ RFs F w ds l := by
    induction ds generalizing off with
    | nil => exact ⟨[], rfl, by simp, by simp, by rw [RFs]⟩
    | cons c cs ih =>
      rw [RFC] at h
      obtain ⟨⟨u, h1, h2, h3⟩, h4⟩ := h
      obtain ⟨l, hl, hg, ho, hr⟩ := ih h4
      refine ⟨u :: l, by simp [hl], ?_, by simpa using ⟨h2.2, ho⟩, by rw [RFs]; exact ⟨u, l, rfl, h3, hr⟩⟩
      intro i v hi
      cases i with
      | zero => simp at hi; subst hi; exact h1
      | succ i =>
        have := hg i v (by simpa using hi)
        have e : off + (i + 1) = off + 1 + i := by omega
        rw [e]; exact this
  obtain ⟨l, hl, hg, ho, hr⟩ := hx
  refine ⟨l.toArray, ?_, by simpa using ho, by simpa using hr⟩
  rw [← hl]
  exact run_loadCells_list w ⟨b, off, none⟩ l fun j v hj => by rw [Addr.add_lit]; exact hg j v hj
end
end Go.Proofs.YtcolebkklojccaaGreat.E
