/-
  The parts of the function that ranges over a function and over a map.
-/
import Derived.Test.YtcjlkbffmggekaaRg
import Derived.Test.YtcjlkbffmggekaaProg
import Derived.KernelRfl
import Derived.Test.YtcjlkbffmggekaaEngZ
set_option linter.unusedVariables false
set_option linter.unusedSimpArgs false
namespace Go.Proofs.Ytcjlkbffmggekaa.E
open Go
def sqL : Code → Code
  | .seq a _ => a
  | c => c
def sqR : Code → Code
  | .seq _ b => b
  | c => c
def blk : Code → Code
  | .block _ c => c
  | .loop c => c
  | c => c
def rfA : Code → Code
  | .rangeFunc _ _ a _ => a
  | c => c
def rfB : Code → Code
  | .rangeFunc _ _ _ b => b
  | c => c
def rgO : Code → Array Oper
  | .region _ ops _ => ops
  | _ => #[]
def p17a (b : Code) : Code := sqL b
def p17b (b : Code) : Code := sqL (sqR b)
def m17 (b : Code) : Code := sqR (sqR b)
def q17 (b : Code) : Code := sqL (sqL (m17 b))
def r17 (b : Code) : Code := blk (sqR (sqL (m17 b)))
def a17 (b : Code) : Code := rfA (r17 b)
def y17 (b : Code) : Code := rfB (r17 b)
def c17 (b : Code) : Code := sqR (m17 b)
/- the range over the map -/
def n17 (b : Code) : Code := sqL (sqL (c17 b))
def l17 (b : Code) : Code := blk (blk (sqR (sqL (c17 b))))
def x17 (b : Code) : Code := sqL (l17 b)
def k17 (b : Code) : Code := sqL (sqR (l17 b))
def w17 (b : Code) : Code := blk (sqR (sqR (l17 b)))
def e17 (b : Code) : Code := sqL (w17 b)
def t17 (b : Code) : Code := sqR (w17 b)
def z17 (b : Code) : Code := sqR (c17 b)
end Go.Proofs.Ytcjlkbffmggekaa.E

set_option linter.unusedSimpArgs false
set_option linter.unusedVariables false
set_option maxRecDepth 100000
set_option maxHeartbeats 4000000
namespace Go.Proofs.Ytcjlkbffmggekaa.E
open Go
abbrev KKp : KK := .ag [.s, .s]
abbrev Lk := List UInt8 × List UInt8
def encLk (x : Lk) : List DV := [.str x.1, .str x.2]
def kentV (l : List (Lk × Int)) : List (DV × DV) := l.map fun p => (.agg (encLk p.1), .int .i64 p.2)
def lkV : List (Lk × Int) → Lk → Option Int
  | [], _ => none
  | p :: l, q => if q = p.1 then some p.2 else lkV l q
theorem lkV_none {l : List (Lk × Int)} {q : Lk} (h : ∀ p ∈ l, p.1 ≠ q) : lkV l q = none := by
  induction l with
  | nil => rfl
  | cons p l ih =>
    unfold lkV
    rw [if_neg (fun e => h p (by simp) e.symm)]
    exact ih fun p hp => h p (by simp [hp])
theorem lkV_mem {l : List (Lk × Int)} {p : Lk × Int} (hn : (l.map (·.1)).Nodup) (h : p ∈ l) : lkV l p.1 = some p.2 := by
  induction l with
  | nil => simp at h
  | cons x l ih =>
    rw [List.map_cons, List.nodup_cons] at hn
    unfold lkV
    rcases List.mem_cons.1 h with rfl | h
    · simp
    · rw [if_neg]
      · exact ih hn.2 h
      · rintro e
        exact hn.1 (by rw [← e]; exact List.mem_map.2 ⟨p, h, rfl⟩)
/-- the slots while the map is gone through -/
def E17 (u v : List UInt8) : List DV := [.any, .str u, .str v] ++ List.replicate 42 .any
theorem left_of {e : MapEntry} {arr : Array MapEntry} {seen : Array Nat} (h : e ∈ (leftOf arr seen).toList) : e ∈ arr.toList ∧ ¬ e.born ∈ seen := by
  unfold leftOf at h
  simpa using h
theorem left_size (arr : Array MapEntry) (seen : Array Nat) : (leftOf arr seen).size = (arr.toList.filter fun e => !seen.contains e.born).length := by
  unfold leftOf
  rw [← Array.toList_filter, Array.length_toList]
theorem left_less {e : MapEntry} {arr : Array MapEntry} {seen : Array Nat} (h : e ∈ (leftOf arr seen).toList) : (leftOf arr (seen.push e.born)).size < (leftOf arr seen).size := by
  rw [left_size, left_size]
  refine filter_lt _ _ (fun x hx => ?_) e ?_ ?_ _ (left_of h).1
  · simp at hx ⊢
    exact hx.1
  · simpa using (left_of h).2
  · simp
theorem left_none {arr : Array MapEntry} {seen : Array Nat} (h : (leftOf arr seen).size = 0) : ∀ e ∈ arr.toList, e.born ∈ seen := by
  intro e he
  by_cases hc : e.born ∈ seen
  · exact hc
  · have : e ∈ leftOf arr seen := by
      unfold leftOf
      simp
      exact ⟨by simpa using he, hc⟩
    have h2 : leftOf arr seen = #[] := Array.eq_empty_of_size_eq_zero h
    rw [h2] at this
    simp at this

section
variable {O : Nat → Prop} {F0 : Frz} {w0 : World} {n : Nat}
/-- between two rounds -/
def MI (O : Nat → Prop) (F0 : Frz) (w0 : World) (D ib r clk : Nat) (arr : Array MapEntry) (kvs : List (Lk × Int)) (u v : List UInt8) (k : Nat) (a : Act) (w : World) : Prop :=
  ∃ M F seen, Inv O F0 w0 M F (E17 u v) [] (less [] a) w ∧ a.defers = [mark D] ∧ Aside F w0 w D (.deferred (some [])) ∧ a.tmps[28]? = some (.pointer (some ⟨ib, 0, none⟩)) ∧ Aside F w0 w ib (.mapIter (some r) clk seen clk) ∧ D ≠ ib ∧ r ≠ ib ∧ w.heap[r]? = some (.map arr clk) ∧ EntsOK F w KKp (kentV kvs) arr clk ∧
    (∀ (i : Nat) p e, kvs[i]? = some p → arr.toList[i]? = some e → e.born ∈ seen → p.1 ≠ (u, v)) ∧ k = (leftOf arr seen).size
theorem MI.none_left {D ib r clk : Nat} {arr : Array MapEntry} {kvs : List (Lk × Int)} {u v : List UInt8} {seen : Array Nat} {F : Frz} {w : World} (he : EntsOK F w KKp (kentV kvs) arr clk) (hs : ∀ (i : Nat) p e, kvs[i]? = some p → arr.toList[i]? = some e → e.born ∈ seen → p.1 ≠ (u, v)) (h0 : (leftOf arr seen).size = 0) : lkV kvs (u, v) = none := by
  refine lkV_none fun p hp => ?_
  obtain ⟨i, hi⟩ := List.mem_iff_getElem?.1 hp
  have hk : (kentV kvs)[i]? = some (.agg (encLk p.1), .int .i64 p.2) := by simp [kentV, hi]
  obtain ⟨e, h1, h2⟩ := he.1.get i _ hk
  exact hs i p e hi h1 (left_none h0 e (List.mem_of_getElem? h1))
theorem MI.entry {clk : Nat} {arr : Array MapEntry} {kvs : List (Lk × Int)} {F : Frz} {w : World} {e : MapEntry} (he : EntsOK F w KKp (kentV kvs) arr clk) (hm : e ∈ arr.toList) : ∃ (i : Nat) (p : Lk × Int), kvs[i]? = some p ∧ arr.toList[i]? = some e ∧ RF F w (.agg (encLk p.1)) e.key ∧ RF F w (.int .i64 p.2) e.val := by
  obtain ⟨i, hi⟩ := List.mem_iff_getElem?.1 hm
  have hl : arr.toList.length = kvs.length := by rw [he.1.length]; simp [kentV]
  have hlt : i < kvs.length := by
    have := (List.getElem?_eq_some_iff.1 hi).1
    omega
  have hk : (kentV kvs)[i]? = some (.agg (encLk kvs[i].1), .int .i64 kvs[i].2) := by simp [kentV, hlt]
  obtain ⟨e', h1, h2⟩ := he.1.get i _ hk
  rw [hi] at h1
  cases h1
  exact ⟨i, kvs[i], List.getElem?_eq_getElem hlt, hi, h2.2.1, h2.2.2.1⟩
end
end Go.Proofs.Ytcjlkbffmggekaa.E
