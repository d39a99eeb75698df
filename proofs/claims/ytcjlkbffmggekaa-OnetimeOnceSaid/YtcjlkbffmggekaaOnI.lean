/-
  The iterator that runs through a list from its end: its contract.
-/
import Derived.Test.YtcjlkbffmggekaaRg
import Derived.Test.YtcjlkbffmggekaaProg
import Derived.RangeFuncBox
import Derived.RangeFuncLeaves
import Derived.WalkKit
import Derived.OwnWalkIn
import Derived.TacticsInMore
import Derived.LoopNIn
import Derived.LoopIn
import Derived.KernelRfl
import Derived.Shelf.Abstract
set_option linter.unusedVariables false
set_option linter.unusedSimpArgs false
set_option linter.unusedSimpArgs false
set_option linter.unusedVariables false
namespace Go.Proofs.Ytcjlkbffmggekaa.E
open Go Go.RowKit Go.Shelf
attribute [local go_sem] Oper.semAt_some
/-- the rows from the end on, each with its index -/
def backR (rows : List (List DV)) : List (List DV) := (List.range rows.length).reverse.map fun (i : Nat) => [DV.int .i64 (i : Int), DV.agg (rows.getD i [])]
theorem backR_len (rows : List (List DV)) : (backR rows).length = rows.length := by simp [backR]
theorem backR_get {rows : List (List DV)} {k : Nat} (h : k < rows.length) : (backR rows)[rows.length - (k + 1)]? = some [.int .i64 k, .agg (rows.getD k [])] := by
  unfold backR
  rw [List.getElem?_map, List.getElem?_reverse (by simp; omega)]
  simp only [List.length_range]
  rw [List.getElem?_range (by omega)]
  simp only [Option.map_some, Option.some.injEq]
  congr 2
  · congr 1
    omega
  · congr 2
    omega
set_option maxRecDepth 100000 in
set_option maxHeartbeats 2000000 in
theorem iter36 (rows : List (List DV)) (hb : rows.length ≤ 1000) : Iter Try.prog 36 [.pf [.sl 4 rows]] (backR rows) := by
  refine ⟨fun args w => enters_of Try.func36 (by kernel_rfl) rfl args w, ?_⟩
  intro F w vs hfwf hcaps l n J Jx hJg hJk hY h0
  rw [All2] at hcaps
  obtain ⟨v, r, rfl, hv, hr⟩ := hcaps
  rw [All2] at hr
  subst hr
  rw [RF] at hv
  obtain ⟨b1, o1, rfl, hc⟩ := hv
  have hcell : ∀ F1 X, Keeps F w F1 X → ∃ A cap, X.cell? ⟨b1, o1, none⟩ = some (.slice A rows.length cap) ∧ rows.length ≤ cap ∧ (∀ k, k < rows.length → ∃ b off, A = some ⟨b, off, none⟩ ∧ (rows.getD k []).length = 4 ∧ RFC F1 X (rows.getD k []) b (off + k * 4)) := by
    intro F1 X hk
    have h1 := RFC.mono hk _ _ _ hc
    rw [RFC] at h1
    obtain ⟨⟨u, e1, e2, e3⟩, _⟩ := h1
    rw [RF] at e3
    obtain ⟨A, cap, rfl, g1, g2, g3, g4⟩ := e3
    refine ⟨A, cap, e1, g1, fun k hk => ?_⟩
    rcases g4 with rfl | ⟨b, off, rfl, g5⟩
    · simp at hk
    · have hx : rows[k]? = some (rows.getD k []) := by simp [List.getD, hk]
      obtain ⟨g6, g7⟩ := g5.get k _ hx
      exact ⟨b, off, rfl, g6, g7⟩
  refine callsIn_of_wp Try.func36 rfl trivial ?_ rfl
  simp only [Try.ntmps36, List.size_toArray, List.length_cons, List.length_nil, Nat.reduceAdd, Nat.reduceSub, Array.replicate_succ, Array.replicate_zero, List.push_toArray, List.append_toArray, List.nil_append, List.cons_append]
  obtain ⟨A0, cap0, hs0, hcap0, _⟩ := hcell F w (Keeps.refl F w)
  have hw0 : IntKind.i64.wrap ((rows.length : Int) - 1) = (rows.length : Int) - 1 := wrap_in (by omega) (by omega)
  gi_wp2
  gi_loopw [3] (fun i wr => ∃ (k : Nat) (F1 : Frz), k ≤ rows.length ∧ i = .int .i64 ((k : Int) - 1) ∧ J (rows.length - k) F1 wr) (fun i _ => (intOf i + 1).toNat)
  case atStart => exact ⟨rows.length, F, Nat.le_refl _, rfl, by simpa using h0⟩
  case round =>
    obtain ⟨k, F1, hk, rfl, hJs⟩ := hrel
    obtain ⟨hkp, hf1⟩ := hJk _ _ _ hJs
    cases k with
    | zero =>
      gi_wp2
      go_end0
      exact ⟨⟨_, rfl⟩, .inl ⟨F1, by simpa [backR_len] using hJs⟩⟩
    | succ k =>
      obtain ⟨A, cap, hs1, hcap1, hrow⟩ := hcell F1 wr hkp
      obtain ⟨b, off, rfl, hlen, hrc⟩ := hrow k (by omega)
      obtain ⟨d0, d1, d2, d3, hds⟩ : ∃ d0 d1 d2 d3, rows.getD k [] = [d0, d1, d2, d3] := by
        match hq : rows.getD k [], hlen with
        | [d0, d1, d2, d3], _ => exact ⟨d0, d1, d2, d3, rfl⟩
      rw [hds] at hrc
      obtain ⟨u0, hu0, ⟨_, hn0⟩, hr0⟩ := hrc.get 0 d0 rfl
      obtain ⟨u1, hu1, ⟨_, hn1⟩, hr1⟩ := hrc.get 1 d1 rfl
      obtain ⟨u2, hu2, ⟨_, hn2⟩, hr2⟩ := hrc.get 2 d2 rfl
      obtain ⟨u3, hu3, ⟨_, hn3⟩, hr3⟩ := hrc.get 3 d3 rfl
      rw [Nat.add_zero] at hu0
      have hk1 : (((k + 1 : Nat) : Int) - 1) = k := by omega
      rw [hk1]
      have hargs : All2 (RF F1 wr) [DV.int .i64 (k : Int), DV.agg (rows.getD k [])] [Value.int .i64 (k : Int), Value.agg #[u0, u1, u2, u3]] :=
        All2.cons (by rw [RF]) (All2.cons (by rw [hds, RF]; exact ⟨_, rfl, by simp [hn0, hn1, hn2, hn3], by rw [RFs_iff]; exact All2.cons hr0 (All2.cons hr1 (All2.cons hr2 (All2.cons hr3 All2.nil)))⟩) All2.nil)
      obtain ⟨fn, tmps, assign, body, hy, hR⟩ := hY _ F1 wr _ _ hJs (backR_get (by omega)) hargs (n - 1)
      have hwk : IntKind.i64.wrap ((k : Int) - 1) = (k : Int) - 1 := wrap_in (by omega) (by omega)
      have hkr : (k : Int) < rows.length := by omega
      have hk0 : (0 : Int) ≤ (k : Int) := by omega
      gi_wp2
      refine ⟨fun e => Bool.noConfusion (show false = true from e), hR.mono ?_⟩
      rintro e W3 (⟨rfl, F3, hJ3⟩ | ⟨rfl, hJx3⟩)
      · gi_wp2
        go_roundw
        case rel => exact ⟨k, F3, by omega, rfl, by rw [show rows.length - k = rows.length - (k + 1) + 1 by omega]; exact hJ3⟩
        case measure => simp [intOf] <;> omega
      · gi_wp2
        refine bodyPost_ret (results_none rfl _ _ _) rfl ?_
        exact ⟨⟨_, rfl⟩, .inr hJx3⟩
end Go.Proofs.Ytcjlkbffmggekaa.E
