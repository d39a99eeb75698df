/-
  The engine, part B: an activation's frame at data level: slots, own blocks, and how both are kept.
-/
import Derived.Test.YtcolebkklojccaaGreatEngA
set_option linter.unusedVariables false
set_option linter.unusedSimpArgs false
namespace Go.Proofs.YtcolebkklojccaaGreat.E
open Go

/-! ### lists in step -/
def All2 {α β : Type} (R : α → β → Prop) : List α → List β → Prop
  | [], bs => bs = []
  | a :: as, bs => ∃ b r, bs = b :: r ∧ R a b ∧ All2 R as r

section
variable {α β : Type} {R S : α → β → Prop}
theorem All2.length : ∀ {as : List α} {bs : List β}, All2 R as bs → bs.length = as.length
  | [], _, h => by rw [All2] at h; subst h; rfl
  | a :: as, _, h => by rw [All2] at h; obtain ⟨b, r, rfl, _, h2⟩ := h; simp [All2.length h2]
theorem All2.get : ∀ {as : List α} {bs : List β}, All2 R as bs → ∀ (i : Nat) a, as[i]? = some a → ∃ b, bs[i]? = some b ∧ R a b
  | [], _, _, i, a, hi => by simp at hi
  | c :: cs, _, h, 0, a, hi => by rw [All2] at h; obtain ⟨b, r, rfl, h1, _⟩ := h; simp at hi; subst hi; exact ⟨b, rfl, h1⟩
  | c :: cs, _, h, i + 1, a, hi => by rw [All2] at h; obtain ⟨b, r, rfl, _, h2⟩ := h; simpa using All2.get h2 i a (by simpa using hi)
theorem All2.of_get : ∀ {as : List α} {bs : List β}, bs.length = as.length → (∀ (i : Nat) a b, as[i]? = some a → bs[i]? = some b → R a b) → All2 R as bs
  | [], bs, hl, _ => by rw [All2]; exact List.eq_nil_of_length_eq_zero hl
  | c :: cs, [], hl, _ => by simp at hl
  | c :: cs, b :: r, hl, h => by
      rw [All2]
      exact ⟨b, r, rfl, h 0 c b rfl rfl, All2.of_get (by simpa using hl) fun i a b' h1 h2 => h (i + 1) a b' (by simpa using h1) (by simpa using h2)⟩
theorem All2.mono (hRS : ∀ a b, R a b → S a b) {as : List α} {bs : List β} (h : All2 R as bs) : All2 S as bs :=
  All2.of_get h.length fun i a b h1 h2 => by
    obtain ⟨b', e, r⟩ := h.get i a h1
    rw [h2] at e; cases e; exact hRS _ _ r
theorem All2.take {as : List α} {bs : List β} (h : All2 R as bs) (n : Nat) : All2 R (as.take n) (bs.take n) :=
  All2.of_get (by simp [h.length]) fun i a b h1 h2 => by
    rw [List.getElem?_take] at h1 h2
    split at h1
    · rename_i hi
      rw [if_pos hi] at h2
      obtain ⟨b', e, r⟩ := h.get i a h1
      rw [h2] at e; cases e; exact r
    · cases h1
theorem All2.drop {as : List α} {bs : List β} (h : All2 R as bs) (n : Nat) : All2 R (as.drop n) (bs.drop n) :=
  All2.of_get (by simp [h.length]) fun i a b h1 h2 => by
    rw [List.getElem?_drop] at h1 h2
    obtain ⟨b', e, r⟩ := h.get _ a h1
    rw [h2] at e; cases e; exact r
theorem All2.append {as cs : List α} {bs ds : List β} (h : All2 R as bs) (k : All2 R cs ds) : All2 R (as ++ cs) (bs ++ ds) := by
  induction as generalizing bs with
  | nil => rw [All2] at h; subst h; exact k
  | cons a as ih => rw [All2] at h; obtain ⟨b, r, rfl, h1, h2⟩ := h; rw [List.cons_append, List.cons_append, All2]; exact ⟨b, _, rfl, h1, ih h2⟩
theorem All2.nil : All2 R ([] : List α) ([] : List β) := by rw [All2]
theorem All2.cons {a : α} {b : β} {as : List α} {bs : List β} (h : R a b) (k : All2 R as bs) : All2 R (a :: as) (b :: bs) := by rw [All2]; exact ⟨b, bs, rfl, h, k⟩
theorem All2.set {as : List α} {bs : List β} (h : All2 R as bs) (n : Nat) {a : α} {b : β} (hr : R a b) : All2 R (as.set n a) (bs.set n b) :=
  All2.of_get (by simp [h.length]) fun i a' b' h1 h2 => by
    rw [List.getElem?_set] at h1 h2
    split at h1
    · rename_i hi
      subst hi
      rw [if_pos rfl] at h2
      split at h1
      · split at h2
        · cases h1; cases h2; exact hr
        · cases h2
      · cases h1
    · rename_i hi
      rw [if_neg hi] at h2
      obtain ⟨b'', e, r⟩ := h.get i a' h1
      rw [h2] at e; cases e; exact r
theorem All2.map {γ : Type} {T : γ → β → Prop} (f : α → γ) (hf : ∀ a b, R a b → T (f a) b) {as : List α} {bs : List β} (h : All2 R as bs) : All2 T (as.map f) bs :=
  All2.of_get (by simp [h.length]) fun i c b h1 h2 => by
    rw [List.getElem?_map] at h1
    cases ha : as[i]? with
    | none => simp [ha] at h1
    | some a =>
      simp [ha] at h1
      obtain ⟨b', e, r⟩ := h.get i a ha
      rw [h2] at e; cases e; subst h1; exact hf _ _ r
theorem All2.mem {as : List α} {bs : List β} (h : All2 R as bs) : ∀ b ∈ bs, ∃ a ∈ as, R a b := by
  intro b hb
  obtain ⟨i, hi⟩ := List.getElem?_of_mem hb
  have hlt : i < as.length := by rw [← h.length]; exact (List.getElem?_eq_some_iff.1 hi).1
  obtain ⟨b', e, r⟩ := h.get i as[i] (List.getElem?_eq_getElem hlt)
  rw [hi] at e; cases e
  exact ⟨_, List.getElem_mem hlt, r⟩
end

theorem RFs_iff {F : Frz} {w : World} : ∀ {ds vs}, RFs F w ds vs ↔ All2 (RF F w) ds vs
  | [], vs => by rw [RFs, All2]
  | d :: ds, vs => by
      rw [RFs, All2]
      constructor
      · rintro ⟨u, r, e, h1, h2⟩; exact ⟨u, r, e, h1, RFs_iff.1 h2⟩
      · rintro ⟨u, r, e, h1, h2⟩; exact ⟨u, r, e, h1, RFs_iff.2 h2⟩

/-! ### slots -/
def gt : List DV → Nat → DV
  | [], _ => .any
  | x :: _, 0 => x
  | _ :: l, n + 1 => gt l n
def stp : List DV → Nat → DV → List DV
  | [], _, _ => []
  | _ :: l, 0, v => v :: l
  | x :: l, n + 1, v => x :: stp l n v
theorem gt_eq : ∀ (l : List DV) (n : Nat), gt l n = (l[n]?).getD .any
  | [], n => by simp [gt]
  | x :: l, 0 => by simp [gt]
  | x :: l, n + 1 => by simp [gt, gt_eq l n]
theorem stp_eq : ∀ (l : List DV) (n : Nat) (v : DV), stp l n v = l.set n v
  | [], n, v => by simp [stp]
  | x :: l, 0, v => by simp [stp]
  | x :: l, n + 1, v => by simp [stp, stp_eq l n v]

/-! ### values, with handles -/
abbrev Hnd := Nat → Option Value

def RVc (M : Hnd) (F : Frz) (w : World) (d : DV) (v : Value) : Prop :=
  match d with
  | .ml k off => ∃ b, M k = some (.pointer (some ⟨b, 0, none⟩)) ∧ v = .pointer (some ⟨b, off, none⟩)
  | .ve k sz i off => ∃ b n c, M k = some (.slice (some ⟨b, 0, none⟩) n c) ∧ v = .pointer (some ⟨b, i * sz + off, none⟩)
  | .ow k => M k = some v ∧ v.oneCell' = true
  | d => RF F w d v
def RV (M : Hnd) (F : Frz) (w : World) (d : DV) (v : Value) : Prop :=
  match d with
  | .aggm cs => ∃ arr : Array Value, v = .agg arr ∧ (∀ u ∈ arr.toList, u.oneCell' = true) ∧ All2 (RVc M F w) cs arr.toList
  | d => RVc M F w d v

theorem RVc_any {M : Hnd} {F : Frz} {w : World} {v : Value} : RVc M F w .any v := by show RF F w .any v; rw [RF]; trivial

/-- frozen: no handle in it -/
def isFz : DV → Bool
  | .any | .bool _ | .int _ _ | .str _ | .agg _ | .tup _ | .sl _ _ | .pf _ | .e0 | .fn _ _ | .nilp | .nilfn | .nili | .ifc _ _ => true
  | .aggm _ | .ml _ _ | .ve _ _ _ _ | .ow _ => false
theorem RVc_fz {M : Hnd} {F : Frz} {w : World} {d : DV} {v : Value} (h : isFz d = true) : RVc M F w d v ↔ RF F w d v := by
  cases d <;> simp [isFz] at h <;> rfl
theorem RV_fz {M : Hnd} {F : Frz} {w : World} {d : DV} {v : Value} (h : isFz d = true) : RV M F w d v ↔ RF F w d v := by
  cases d <;> simp [isFz] at h <;> rfl
theorem RV_RVc {M : Hnd} {F : Frz} {w : World} {d : DV} {v : Value} (h : RVc M F w d v) : RV M F w d v := by
  cases d <;> first | exact h | (simp only [RVc, RF] at h)
theorem RVcs_fz {M : Hnd} {F : Frz} {w : World} {cs : List DV} {vs : List Value} (h : cs.all isFz = true) : All2 (RVc M F w) cs vs ↔ All2 (RF F w) cs vs := by
  have key : ∀ d ∈ cs, isFz d = true := by simpa using h
  constructor <;> intro hh <;> refine All2.of_get hh.length fun i a b h1 h2 => ?_ <;> obtain ⟨b', e, r⟩ := hh.get i a h1 <;> rw [h2] at e <;> cases e
  · exact (RVc_fz (key a (List.mem_of_getElem? h1))).1 r
  · exact (RVc_fz (key a (List.mem_of_getElem? h1))).2 r

theorem RVc.mono {M : Hnd} {F F' : Frz} {w w' : World} (hk : Keeps F w F' w') {d : DV} {v : Value} (h : RVc M F w d v) : RVc M F' w' d v := by
  cases d <;> first | exact h | exact RF.mono hk _ _ h
theorem RV.mono {M : Hnd} {F F' : Frz} {w w' : World} (hk : Keeps F w F' w') {d : DV} {v : Value} (h : RV M F w d v) : RV M F' w' d v := by
  cases d with
  | aggm cs => obtain ⟨arr, e, h1, h2⟩ := h; exact ⟨arr, e, h1, h2.mono fun _ _ => RVc.mono hk⟩
  | _ => exact RV_RVc (RVc.mono hk (show RVc M F w _ v from h))

/-! ### own blocks -/
/-- kinds of plain cells -/
inductive PK where
  | b
  | i
  | s
/-- kinds of keys -/
inductive KK where
  | pl (k : PK)
  | ag (ks : List PK)
def isPl : PK → DV → Bool
  | .b, .bool _ => true
  | .i, .int .i64 _ => true
  | .s, .str _ => true
  | _, _ => false
def isPls : List PK → List DV → Bool
  | [], [] => true
  | k :: ks, c :: cs => isPl k c && isPls ks cs
  | _, _ => false
def isKey : KK → DV → Bool
  | .pl k, d => isPl k d
  | .ag ks, .agg cs => isPls ks cs
  | _, _ => false
inductive Blk where
  | box (cells : List DV)
  | vec (e sz : Nat) (xs : List (List DV))
  | mp (kk : KK) (es : List (DV × DV))
abbrev Mem := List (Nat × Blk)
def mget : Mem → Nat → Option Blk
  | [], _ => none
  | (j, b) :: m, k => if j = k then some b else mget m k
def mdel (k : Nat) : Mem → Mem
  | [] => []
  | (j, b) :: m => if j = k then mdel k m else (j, b) :: mdel k m
def mmap (f : Blk → Blk) : Mem → Mem
  | [] => []
  | (j, b) :: m => (j, f b) :: mmap f m
def mset (k : Nat) (x : Blk) : Mem → Mem
  | [] => []
  | (j, b) :: m => if j = k then (j, x) :: m else (j, b) :: mset k x m
theorem mget_mdel (k : Nat) : ∀ (m : Mem) (j : Nat), mget (mdel k m) j = if j = k then none else mget m j
  | [], j => by simp [mdel, mget]
  | (i, b) :: m, j => by
      simp only [mdel, mget]
      split
      · rename_i hi; subst hi
        rw [mget_mdel i m j]
        split
        · rename_i hj; subst hj; simp
        · rename_i hj; rw [if_neg (fun e => hj e.symm)]
      · rename_i hi
        simp only [mget]
        rw [mget_mdel k m j]
        split
        · rename_i hij; subst hij; rw [if_neg hi]
        · rfl
theorem mget_mmap (f : Blk → Blk) : ∀ (m : Mem) (j : Nat), mget (mmap f m) j = (mget m j).map f
  | [], j => by simp [mmap, mget]
  | (i, b) :: m, j => by
      simp only [mmap, mget]
      split
      · rfl
      · exact mget_mmap f m j
theorem mget_mset {k : Nat} {x : Blk} : ∀ {m : Mem} {y : Blk}, mget m k = some y → ∀ (j : Nat), mget (mset k x m) j = if j = k then some x else mget m j
  | [], y, h, j => by simp [mget] at h
  | (i, b) :: m, y, h, j => by
      simp only [mset, mget] at *
      by_cases hi : i = k
      · subst hi
        simp only [if_true, mget]
        by_cases hj : i = j
        · subst hj; simp
        · rw [if_neg hj, if_neg (fun e => hj e.symm), if_neg hj]
      · rw [if_neg hi] at h
        simp only [if_neg hi, mget]
        by_cases hj : i = j
        · subst hj; rw [if_pos rfl, if_neg hi, if_pos rfl]
        · rw [if_neg hj, if_neg hj, mget_mset h j]

def hblk : Value → Option Nat
  | .pointer (some a) => some a.block
  | .slice (some a) _ cap => if cap = 0 then none else some a.block
  | .map (some r) => some r
  | _ => none

/-- a slice of the activation's own: without room, or at the head of a block that it may write, known so far as it is long -/
def VecOK (F : Frz) (w : World) (N : Nat → Prop) (e sz : Nat) (xs : List (List DV)) (v : Value) : Prop :=
  (∀ x ∈ xs, x.length = sz) ∧ ((xs = [] ∧ ∃ A, v = .slice A 0 0) ∨
    ∃ g cap cur, v = .slice (some ⟨g, 0, none⟩) xs.length cap ∧ 0 < cap ∧ N g ∧ (∀ o, ¬ F g o) ∧ w.heap[g]? = some (.cells cur e (0, 0)) ∧ xs.length ≤ cap ∧ cap ≤ maxLen ∧ cur.size = cap * sz ∧
      (∀ u ∈ cur.toList.take (xs.length * sz), u.oneCell' = true) ∧ All2 (RF F w) xs.flatten (cur.toList.take (xs.length * sz)))

/-- a map of the activation's own -/
def EntOK (F : Frz) (w : World) (kk : KK) (p : DV × DV) (en : MapEntry) : Prop := isKey kk p.1 = true ∧ RF F w p.1 en.key ∧ RF F w p.2 en.val ∧ en.val.oneCell' = true
/-- the entries' stamps: below the clock, no two alike -/
def Stamps (arr : Array MapEntry) (clk : Nat) : Prop := (∀ x ∈ arr.toList, x.born < clk) ∧ (arr.toList.map (·.born)).Nodup
def EntsOK (F : Frz) (w : World) (kk : KK) (es : List (DV × DV)) (arr : Array MapEntry) (clk : Nat) : Prop := All2 (EntOK F w kk) es arr.toList ∧ Stamps arr clk
def MapOK (F : Frz) (w : World) (N : Nat → Prop) (kk : KK) (es : List (DV × DV)) (v : Value) : Prop :=
  ∃ r arr clk, v = .map (some r) ∧ N r ∧ (∀ o, ¬ F r o) ∧ w.heap[r]? = some (.map arr clk) ∧ EntsOK F w kk es arr clk

def BlkOK (M : Hnd) (F : Frz) (w : World) (N : Nat → Prop) (k : Nat) : Blk → Prop
  | .box cells => ∃ b arr t, M k = some (.pointer (some ⟨b, 0, none⟩)) ∧ N b ∧ w.heap[b]? = some (.cells arr t (0, 0)) ∧ (∀ u ∈ arr.toList, u.oneCell' = true) ∧
      All2 (RVc M F w) cells arr.toList ∧ ∀ o, ¬ F b o
  | .vec e sz xs => ∃ v, M k = some v ∧ VecOK F w N e sz xs v
  | .mp kk es => ∃ v, M k = some v ∧ MapOK F w N kk es v

/-- how a world and what is frozen in it may have grown since the call began -/
structure Grow (O : Nat → Prop) (F0 : Frz) (w0 : World) (F : Frz) (w : World) : Prop where
  sub : ∀ b o, F0 b o → F b o
  new : ∀ b o, F b o → F0 b o ∨ w0.heap.size ≤ b ∨ O b
  fwf : ∀ b o, F b o → b < w.heap.size
  size : w0.heap.size ≤ w.heap.size
  block : ∀ b, b < w0.heap.size → ¬ O b → w.heap[b]? = w0.heap[b]?
  os : w.os = w0.os
  tape : w.tape = w0.tape
  output : w.output = w0.output

def Nw (O : Nat → Prop) (w0 : World) (b : Nat) : Prop := w0.heap.size ≤ b ∨ O b

structure Inv (O : Nat → Prop) (F0 : Frz) (w0 : World) (M : Hnd) (F : Frz) (env : List DV) (mem : Mem) (a : Act) (w : World) : Prop where
  dl : a.defers = []
  ev : All2 (RV M F w) env a.tmps.toList
  mm : ∀ k blk, mget mem k = some blk → BlkOK M F w (Nw O w0) k blk
  dis : ∀ k k' blk blk' v v' b, mget mem k = some blk → mget mem k' = some blk' → M k = some v → M k' = some v' → hblk v = some b → hblk v' = some b → k = k'
  grow : Grow O F0 w0 F w

section
variable {O : Nat → Prop} {F0 : Frz} {w0 : World} {M : Hnd} {F : Frz} {env : List DV} {mem : Mem} {a : Act} {w w' : World}

theorem BlkOK.handle {N : Nat → Prop} {k : Nat} {blk : Blk} (h : BlkOK M F w N k blk) : ∃ v, M k = some v := by
  cases blk with
  | box cells => obtain ⟨b, arr, t, h, _⟩ := h; exact ⟨_, h⟩
  | vec e sz xs => obtain ⟨v, h, _⟩ := h; exact ⟨_, h⟩
  | mp kk es => obtain ⟨v, h, _⟩ := h; exact ⟨_, h⟩
/-- its block can be written, is not frozen, and is there -/
theorem BlkOK.block {N : Nat → Prop} {k : Nat} {blk : Blk} (h : BlkOK M F w N k blk) {v : Value} {b : Nat} (hv : M k = some v) (hb : hblk v = some b) : N b ∧ (∀ o, ¬ F b o) ∧ b < w.heap.size := by
  cases blk with
  | box cells =>
    obtain ⟨b', arr, t, h1, h2, h3, h4, _, h5⟩ := h
    rw [hv] at h1; cases h1
    simp [hblk] at hb; subst hb
    exact ⟨h2, h5, (Array.getElem?_eq_some_iff.1 h3).1⟩
  | vec e sz xs =>
    obtain ⟨v', h1, hs, h2⟩ := h
    rw [hv] at h1; cases h1
    rcases h2 with ⟨_, A, rfl⟩ | ⟨g, cap, cur, rfl, hc, h3, h4, h5, _⟩
    · cases A <;> simp [hblk] at hb
    · simp only [hblk, if_neg (Nat.pos_iff_ne_zero.1 hc), Option.some.injEq] at hb
      subst hb
      exact ⟨h3, h4, (Array.getElem?_eq_some_iff.1 h5).1⟩
  | mp kk es =>
    obtain ⟨v', h1, r, arr, clk, rfl, h2, h3, h4, _⟩ := h
    rw [hv] at h1; cases h1
    simp only [hblk, Option.some.injEq] at hb
    subst hb
    exact ⟨h2, h3, (Array.getElem?_eq_some_iff.1 h4).1⟩

theorem cell_of_block {w w' : World} {b : Nat} (h : w'.heap[b]? = w.heap[b]?) (o : Nat) : w'.cell? ⟨b, o, none⟩ = w.cell? ⟨b, o, none⟩ := by simp [World.cell?, h]

theorem VecOK.move {N : Nat → Prop} {e sz : Nat} {xs : List (List DV)} {v : Value} (h : VecOK F w N e sz xs v) (hk : Keeps F w F w') (hb : ∀ b, hblk v = some b → w'.heap[b]? = w.heap[b]?) : VecOK F w' N e sz xs v := by
  obtain ⟨hs, h2⟩ := h
  refine ⟨hs, ?_⟩
  rcases h2 with h2 | ⟨g, cap, cur, rfl, hc, h3, h4, h5, h6, h7, h8, h9, h10⟩
  · exact .inl h2
  · exact .inr ⟨g, cap, cur, rfl, hc, h3, h4, by rw [hb g (by simp only [hblk, if_neg (Nat.pos_iff_ne_zero.1 hc)])]; exact h5, h6, h7, h8, h9, h10.mono fun _ _ => RF.mono hk _ _⟩
theorem EntOK.mono {F' : Frz} {kk : KK} {p : DV × DV} {en : MapEntry} (hk : Keeps F w F' w') (h : EntOK F w kk p en) : EntOK F' w' kk p en := ⟨h.1, RF.mono hk _ _ h.2.1, RF.mono hk _ _ h.2.2.1, h.2.2.2⟩
theorem MapOK.move {N : Nat → Prop} {kk : KK} {es : List (DV × DV)} {v : Value} (h : MapOK F w N kk es v) (hk : Keeps F w F w') (hb : ∀ b, hblk v = some b → w'.heap[b]? = w.heap[b]?) : MapOK F w' N kk es v := by
  obtain ⟨r, arr, clk, rfl, h2, h3, h4, h5⟩ := h
  exact ⟨r, arr, clk, rfl, h2, h3, by rw [hb r rfl]; exact h4, h5.1.mono fun _ _ => EntOK.mono hk, h5.2⟩
theorem BlkOK.move {N : Nat → Prop} {k : Nat} {blk : Blk} (h : BlkOK M F w N k blk) (hk : Keeps F w F w') (hb : ∀ v b, M k = some v → hblk v = some b → w'.heap[b]? = w.heap[b]?) : BlkOK M F w' N k blk := by
  cases blk with
  | box cells =>
    obtain ⟨b, arr, t, h1, h2, h3, h4, h5, h6⟩ := h
    exact ⟨b, arr, t, h1, h2, by rw [hb _ b h1 rfl]; exact h3, h4, h5.mono fun _ _ => RVc.mono hk, h6⟩
  | vec e sz xs =>
    obtain ⟨v, h1, h2⟩ := h
    exact ⟨v, h1, h2.move hk fun b => hb v b h1⟩
  | mp kk es =>
    obtain ⟨v, h1, h2⟩ := h
    exact ⟨v, h1, h2.move hk fun b => hb v b h1⟩

/-- the world turns in blocks X alone, which nothing here speaks of -/
theorem Inv.world (h : Inv O F0 w0 M F env mem a w) (X : Nat → Prop) (hsame : ∀ b, b < w.heap.size → ¬ X b → w'.heap[b]? = w.heap[b]?) (hsz : w.heap.size ≤ w'.heap.size)
    (hos : w'.os = w.os) (htp : w'.tape = w.tape) (hout : w'.output = w.output) (hXF : ∀ b o, X b → ¬ F b o)
    (hXM : ∀ k blk v b, mget mem k = some blk → M k = some v → hblk v = some b → ¬ X b) (hXN : ∀ b, X b → Nw O w0 b) : Inv O F0 w0 M F env mem a w' := by
  have hk : Keeps F w F w' := ⟨fun _ _ h => h, fun b o hb => cell_of_block (hsame b (h.grow.fwf b o hb) fun hx => hXF b o hx hb) o⟩
  refine ⟨h.dl, h.ev.mono fun _ _ => RV.mono hk, fun k blk hm => ?_, h.dis, ⟨h.grow.sub, h.grow.new, fun b o hb => Nat.lt_of_lt_of_le (h.grow.fwf b o hb) hsz, Nat.le_trans h.grow.size hsz, ?_, hos.trans h.grow.os, htp.trans h.grow.tape, hout.trans h.grow.output⟩⟩
  · have hb := h.mm k blk hm
    exact hb.move hk fun v b hv hvb => hsame b (hb.block hv hvb).2.2 (hXM k blk v b hm hv hvb)
  · intro b hb hO
    by_cases hx : X b
    · rcases hXN b hx with h1 | h1
      · omega
      · exact absurd h1 hO
    · exact (hsame b (Nat.lt_of_lt_of_le hb h.grow.size) hx).trans (h.grow.block b hb hO)
theorem Inv.drew (h : Inv O F0 w0 M F env mem a w) : Inv O F0 w0 M F env mem a w.drew :=
  h.world (fun _ => False) (fun _ _ _ => rfl) (Nat.le_refl _) rfl rfl rfl (fun _ _ hx => hx.elim) (fun _ _ _ _ _ _ _ hx => hx) (fun _ hx => hx.elim)
theorem Inv.alloc (h : Inv O F0 w0 M F env mem a w) (o : Obj) : Inv O F0 w0 M F env mem a (w.alloc o) :=
  h.world (fun _ => False) (fun _ hb _ => heap_alloc_old w o hb) (by simp) rfl rfl rfl (fun _ _ hx => hx.elim) (fun _ _ _ _ _ _ _ hx => hx) (fun _ hx => hx.elim)

/-- a slot is written -/
theorem Inv.put (h : Inv O F0 w0 M F env mem a w) (dst : Nat) {d : DV} {v : Value} (hd : RV M F w d v) : Inv O F0 w0 M F (stp env dst d) mem (a.put (some dst) v) w := by
  refine ⟨h.dl, ?_, h.mm, h.dis, h.grow⟩
  rw [stp_eq]
  simpa [Act.put] using h.ev.set dst hd
theorem Inv.get (h : Inv O F0 w0 M F env mem a w) (t : Nat) : RV M F w (gt env t) (a.tmps.getD t undef) := by
  rw [gt_eq]
  cases he : env[t]? with
  | none => simp only [Option.getD_none]; exact RV_RVc RVc_any
  | some d =>
    obtain ⟨v, hv, hr⟩ := h.ev.get t d he
    simp only [Option.getD_some]
    have : a.tmps.getD t undef = v := by
      have hv' : a.tmps[t]? = some v := by simpa using hv
      simp [hv']
    rw [this]; exact hr
/-- less is known -/
theorem Inv.weaken (h : Inv O F0 w0 M F env mem a w) {env' : List DV} (he : All2 (fun d d' => d' = d ∨ d' = .any) env env') : Inv O F0 w0 M F env' mem a w := by
  refine ⟨h.dl, All2.of_get (by rw [h.ev.length, he.length]) fun i d' v h1 h2 => ?_, h.mm, h.dis, h.grow⟩
  have hlt : i < env.length := by rw [← he.length]; exact (List.getElem?_eq_some_iff.1 h1).1
  obtain ⟨d'', e, hd⟩ := he.get i env[i] (List.getElem?_eq_getElem hlt)
  rw [h1] at e; cases e
  obtain ⟨v', e2, hr⟩ := h.ev.get i env[i] (List.getElem?_eq_getElem hlt)
  rw [h2] at e2; cases e2
  rcases hd with e | e
  · subst e; exact hr
  · subst e; exact RV_RVc RVc_any
theorem Inv.mdel (h : Inv O F0 w0 M F env mem a w) (k : Nat) : Inv O F0 w0 M F env (mdel k mem) a w := by
  have key : ∀ j blk, mget (E.mdel k mem) j = some blk → mget mem j = some blk := by
    intro j blk hj
    rw [mget_mdel] at hj
    split at hj
    · cases hj
    · exact hj
  exact ⟨h.dl, h.ev, fun j blk hj => h.mm j blk (key j blk hj), fun j j' blk blk' v v' b h1 h2 => h.dis j j' blk blk' v v' b (key _ _ h1) (key _ _ h2), h.grow⟩

/-! #### forgetting a handle, and giving its name anew -/
def klc (k : Nat) : DV → DV
  | .any => .any | .bool b => .bool b | .int j n => .int j n | .str s => .str s | .agg cs => .agg cs | .tup vs => .tup vs | .sl sz xs => .sl sz xs
  | .pf cs => .pf cs | .e0 => .e0 | .fn f cap => .fn f cap | .nilp => .nilp | .nilfn => .nilfn | .nili => .nili | .ifc t v => .ifc t v | .aggm cs => .aggm cs
  | .ml j o => if j = k then .any else .ml j o
  | .ve j sz i o => if j = k then .any else .ve j sz i o
  | .ow j => if j = k then .any else .ow j
def kl (k : Nat) : DV → DV
  | .any => .any | .bool b => .bool b | .int j n => .int j n | .str s => .str s | .agg cs => .agg cs | .tup vs => .tup vs | .sl sz xs => .sl sz xs
  | .pf cs => .pf cs | .e0 => .e0 | .fn f cap => .fn f cap | .nilp => .nilp | .nilfn => .nilfn | .nili => .nili | .ifc t v => .ifc t v
  | .aggm cs => .aggm (cs.map (klc k))
  | .ml j o => if j = k then .any else .ml j o
  | .ve j sz i o => if j = k then .any else .ve j sz i o
  | .ow j => if j = k then .any else .ow j
def klb (k : Nat) : Blk → Blk
  | .box cells => .box (cells.map (klc k))
  | .vec e sz xs => .vec e sz xs
  | .mp kk es => .mp kk es
def upd (M : Hnd) (k : Nat) (v : Value) : Hnd := fun j => if j = k then some v else M j

theorem RVc.kl {d : DV} {v : Value} (h : RVc M F w d v) (k : Nat) (u : Value) : RVc (upd M k u) F w (klc k d) v := by
  cases d <;> try exact h
  · rename_i j o
    simp only [klc]
    split
    · exact RVc_any
    · rename_i hj
      obtain ⟨b, h1, h2⟩ := h
      exact ⟨b, by simp only [upd, if_neg hj]; exact h1, h2⟩
  · rename_i j sz i o
    simp only [klc]
    split
    · exact RVc_any
    · rename_i hj
      obtain ⟨b, n, c, h1, h2⟩ := h
      exact ⟨b, n, c, by simp only [upd, if_neg hj]; exact h1, h2⟩
  · rename_i j
    simp only [klc]
    split
    · exact RVc_any
    · rename_i hj
      exact ⟨by simp only [upd, if_neg hj]; exact h.1, h.2⟩
theorem RV.kl {d : DV} {v : Value} (h : RV M F w d v) (k : Nat) (u : Value) : RV (upd M k u) F w (kl k d) v := by
  cases d with
  | aggm cs =>
    obtain ⟨arr, e, h1, h2⟩ := h
    exact ⟨arr, e, h1, h2.map _ fun _ _ hh => hh.kl k u⟩
  | ml j o => exact RV_RVc (RVc.kl (d := .ml j o) h k u)
  | ve j sz i o => exact RV_RVc (RVc.kl (d := .ve j sz i o) h k u)
  | ow j => exact RV_RVc (RVc.kl (d := .ow j) h k u)
  | _ => exact h
theorem BlkOK.kl {N : Nat → Prop} {j : Nat} {blk : Blk} (h : BlkOK M F w N j blk) (k : Nat) (u : Value) (hj : j ≠ k) : BlkOK (upd M k u) F w N j (klb k blk) := by
  cases blk with
  | box cells =>
    obtain ⟨b, arr, t, h1, h2, h3, h4, h5, h6⟩ := h
    exact ⟨b, arr, t, by simp only [upd, if_neg hj]; exact h1, h2, h3, h4, h5.map _ fun _ _ hh => hh.kl k u, h6⟩
  | vec e sz xs =>
    obtain ⟨v, h1, h2⟩ := h
    exact ⟨v, by simp only [upd, if_neg hj]; exact h1, h2⟩
  | mp kk es =>
    obtain ⟨v, h1, h2⟩ := h
    exact ⟨v, by simp only [upd, if_neg hj]; exact h1, h2⟩

/-- a block gets the name k: what went by that name is forgotten -/
def bindE (k : Nat) (env : List DV) : List DV := env.map (kl k)
def bindM (k : Nat) (blk : Blk) (mem : Mem) : Mem := (k, blk) :: mmap (klb k) (mdel k mem)
theorem Inv.bind (h : Inv O F0 w0 M F env mem a w) (k : Nat) (u : Value) (blk : Blk) (hb : BlkOK (upd M k u) F w (Nw O w0) k blk)
    (hd : ∀ j blk' v b, j ≠ k → mget mem j = some blk' → M j = some v → hblk v = some b → hblk u ≠ some b) :
    Inv O F0 w0 (upd M k u) F (bindE k env) (bindM k blk mem) a w := by
  have key : ∀ j blk', mget (bindM k blk mem) j = some blk' → (j = k ∧ blk' = blk) ∨ (j ≠ k ∧ ∃ b0, mget mem j = some b0 ∧ blk' = klb k b0) := by
    intro j blk' hj
    simp only [bindM, mget] at hj
    split at hj
    · rename_i e; cases hj; exact .inl ⟨e.symm, rfl⟩
    · rename_i e
      rw [mget_mmap, mget_mdel] at hj
      rw [if_neg (fun h => e h.symm)] at hj
      cases hm : mget mem j with
      | none => simp [hm] at hj
      | some b0 => simp [hm] at hj; exact .inr ⟨fun h => e h.symm, b0, rfl, hj.symm⟩
  refine ⟨h.dl, h.ev.map _ fun _ _ hh => hh.kl k u, fun j blk' hj => ?_, ?_, h.grow⟩
  · rcases key j blk' hj with ⟨rfl, rfl⟩ | ⟨hne, b0, h0, rfl⟩
    · exact hb
    · exact (h.mm j b0 h0).kl k u hne
  · intro j j' blk1 blk2 v v' b h1 h2 hv hv' hb1 hb2
    rcases key j blk1 h1 with ⟨rfl, rfl⟩ | ⟨hne, b0, h0, rfl⟩
    · rcases key j' blk2 h2 with ⟨rfl, rfl⟩ | ⟨hne', b0', h0', rfl⟩
      · rfl
      · simp only [upd, if_neg hne'] at hv'
        simp only [upd, if_true] at hv; cases hv
        exact absurd hb1 (hd j' b0' v' b hne' h0' hv' hb2)
    · simp only [upd, if_neg hne] at hv
      rcases key j' blk2 h2 with ⟨rfl, rfl⟩ | ⟨hne', b0', h0', rfl⟩
      · simp only [upd, if_true] at hv'; cases hv'
        exact absurd hb2 (hd j b0 v b hne h0 hv hb1)
      · simp only [upd, if_neg hne'] at hv'
        exact h.dis j j' b0 b0' v v' b h0 h0' hv hv' hb1 hb2
end
end Go.Proofs.YtcolebkklojccaaGreat.E
