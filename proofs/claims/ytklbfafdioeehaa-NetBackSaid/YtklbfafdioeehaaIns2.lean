/-
  Ins2: walks of functions of the program at data level.
-/
import Derived.Test.YtklbfafdioeehaaIns
import Derived.Lib.AppendZerosOnto
set_option linter.unusedVariables false
set_option linter.unusedSimpArgs false
namespace Go.Proofs.Ytklbfafdioeehaa.E
open Go Go.RowKit Go.Lib
set_option maxHeartbeats 1000000
set_option maxRecDepth 100000
set_option linter.unusedSimpArgs false
set_option linter.unusedVariables false
/-- what a world keeps outside one block -/
structure Kept (g : Nat) (w w' : World) : Prop where
  same : ∀ j, j ≠ g → j < w.heap.size → w'.heap[j]? = w.heap[j]?
  size : w.heap.size ≤ w'.heap.size
  os : w'.os = w.os
  tape : w'.tape = w.tape
  output : w'.output = w.output
theorem Kept.drew {g : Nat} {w : World} : Kept g w w.drew := ⟨fun _ _ _ => rfl, Nat.le_refl _, rfl, rfl, rfl⟩
theorem Kept.row {g : Nat} {w w' : World} (h : Kept g w w') (cs : Array Value) : Kept g w (w'.setRow g cs) := ⟨fun j hj hl => by rw [setRow_other w' g j cs hj]; exact h.same j hj hl, by simpa using h.size, h.os, h.tape, h.output⟩
theorem Kept.draw {g : Nat} {w w' : World} (h : Kept g w w') : Kept g w w'.drew := ⟨h.same, h.size, h.os, h.tape, h.output⟩
/-- a part of a row, read -/
theorem load_part {P : Program} {w : World} {g o : Nat} {A B C : List Value} {t : TypeId} {fr : Nat × Nat} (hg : w.heap[g]? = some (.cells (A ++ B ++ C).toArray t fr)) (hA : A.length = o) {k : Nat} (hB : B.length = k) :
    (loadCells ⟨g, o, none⟩ k).run P w = .ok B.toArray w := by
  subst hB
  refine run_loadCells_list w _ B fun j v hj => ?_
  have hlt := (List.getElem?_eq_some_iff.1 hj).1
  rw [Addr.add_lit, cell_of_row w g _ _ t fr hg, List.getElem?_toArray, List.append_assoc, List.getElem?_append_right (by omega), List.getElem?_append_left (by omega), ← hj]
  congr 1
  omega
theorem ins_room {w : World} {g n c i vb vc : Nat} {A Q R X V : List Value} (hg : w.heap[g]? = some (.cells (A ++ Q ++ R).toArray 49 (0, 0))) (hA : A.length = i * 2) (hQ : Q.length = (n - i) * 2) (hR : R.length = (c - n) * 2) (hn : n < c) (hc : c ≤ 9223372036854775807) (hi : i < n)
    (hv : w.heap[vb]? = some (.cells (X ++ V).toArray 49 (0, 0))) (hX : X.length = 2) (hne : vb ≠ g) (hQ1 : ∀ u ∈ Q, u.oneCell' = true) (hX1 : ∀ u ∈ X, u.oneCell' = true) :
    Calls Try.prog 31 #[.slice (some ⟨g, 0, none⟩) n c, .int .i64 i, .slice (some ⟨vb, 0, none⟩) 1 vc] w fun e w' => e = .returned (.slice (some ⟨g, 0, none⟩) (n + 1) c) ∧ w'.heap[g]? = some (.cells (A ++ X ++ Q ++ R.drop 2).toArray 49 (0, 0)) ∧ Kept g w w' := by
  have t3 := Try.underlying3; have a3 := Try.isAgg3; have z3 := Try.sizeOf3; have v3 := Try.zeroValue3
  have t4 := Try.underlying4; have a4 := Try.isAgg4; have z4 := Try.sizeOf4; have v4 := Try.zeroValue4
  have t23 := Try.underlying23; have a23 := Try.isAgg23; have z23 := Try.sizeOf23; have v23 := Try.zeroValue23
  have t49 := Try.underlying49; have a49 := Try.isAgg49; have z49 := Try.sizeOf49; have v49 := Try.zeroValue49
  have u3 := run_underlying Try.underlying3; have u4 := run_underlying Try.underlying4; have u23 := run_underlying Try.underlying23
  have hsz : szT Try.prog 49 = some 2 := by kernel_rfl
  have hz2 : ¬ ((i : Int) = (n : Int)) := by omega
  have hov : ∀ o lb cb, (callFunc 39 #[.slice (some ⟨vb, 0, none⟩) 1 vc, .slice (some ⟨g, o, none⟩) lb cb]).run Try.prog w = .ok (.value (.bool false)) w := fun o lb cb => by
    rw [run_callFunc_extern Try.func39 (by kernel_rfl) (by kernel_rfl) (by kernel_rfl) (e := Extern.SlicesOverlaps.overlaps #[23, 23] #[4]) (by kernel_rfl),
      Lib.run_overlaps_apart w 23 4 49 Try.underlying23 2 Try.sizeOf49 ⟨vb, 0, none⟩ ⟨g, o, none⟩ 1 vc lb cb hne 49 49 (X ++ V).toArray.size (A ++ Q ++ R).toArray.size (by simp [World.shape?, hv]) (by simp [World.shape?, hg]) (by simp only [List.size_toArray, List.length_append]; omega) (by simp [World.frozen?, hv]) (by simp [World.frozen?, hv])]
    rfl
  have hin : i ≤ n := by omega
  have mixed : Try.prog.follows .mixedOrders = true := by kernel_rfl
  have hw1 : IntKind.i64.wrap ((i : Int) + 1) = (i : Int) + 1 := by rw [IntKind.wrap_i64]; omega
  have hb1 : (0 : Int) ≤ (i : Int) + 1 := by omega
  have htn : ((i : Int) + 1).toNat = i + 1 := by omega
  have hb2 : ¬ (c = i + 1) := by omega
  have hb3 : (i : Int) ≤ (n : Int) + 1 := by omega
  have hb4 : ¬ (c = i) := by omega
  obtain ⟨R5, D, hRD, hR5⟩ : ∃ R5 D, R = R5 ++ D ∧ R5.length = 2 := ⟨R.take 2, R.drop 2, by simp, by rw [List.length_take]; omega⟩
  obtain ⟨T, T', hT, hT5⟩ : ∃ T T', Q ++ R5 = T ++ T' ∧ T.length = 2 := ⟨(Q ++ R5).take 2, (Q ++ R5).drop 2, by simp, by rw [List.length_take, List.length_append]; omega⟩
  have hT' : T'.length = (n - i) * 2 := by
    have := congrArg List.length hT
    simp only [List.length_append] at this
    omega
  have hd5 : R.drop 2 = D := by rw [hRD, List.drop_left' hR5]
  have hcur : (A ++ Q ++ R) = A ++ T ++ T' ++ D := by rw [hRD, ← List.append_assoc, List.append_assoc A Q R5, hT, List.append_assoc A T T']
  have hg' : w.drew.heap[g]? = some (.cells (A ++ Q ++ R).toArray 49 (0, 0)) := hg
  have hcp1 : ∀ ty, (Builtin.copy_ #[23, 23] ty #[.slice (some ⟨g, (i + 1) * 2, none⟩) (n - i) (c - (i + 1)), .slice (some ⟨g, i * 2, none⟩) (n + 1 - i) (c - i)]).run Try.prog w.drew = .ok (goInt (n - i)) (w.drew.setRow g (A ++ T ++ Q ++ D).toArray) := fun ty => by
    have h := run_copyM (P := Try.prog) (w := w.drew) (dT := 23) (sT := 23) (ty := ty) Try.underlying23 hsz (g := g) (o := (i + 1) * 2) (dLen := n - i) (dCap := c - (i + 1)) hg' (A := ⟨g, i * 2, none⟩) (sLen := n + 1 - i) (sCap := c - i) (m := n - i) (by simp only [Nat.min_def]; split <;> omega) (load_part hg' hA hQ) (by simpa using hQ) (by simp; omega) (by simpa using hQ1)
    rw [h]
    have e1 : (A ++ T ++ T' ++ D).take ((i + 1) * 2) = A ++ T := by
      rw [List.append_assoc (A ++ T)]
      exact List.take_left' (by simp; omega)
    have e2 : (A ++ T ++ T' ++ D).drop ((i + 1) * 2 + (n - i) * 2) = D := List.drop_left' (by simp; omega)
    simp only [hcur, e1, e2]
    congr 1
    simp [goInt]
    omega
  have hg1 : (w.drew.setRow g (A ++ T ++ Q ++ D).toArray).heap[g]? = some (.cells (A ++ T ++ Q ++ D).toArray 49 (0, 0)) := setRow_heap w.drew g _ _ _ _ hg'
  have hv1 : (w.drew.setRow g (A ++ T ++ Q ++ D).toArray).heap[vb]? = some (.cells ([] ++ X ++ V).toArray 49 (0, 0)) := by
    rw [setRow_other _ g vb _ hne]
    exact hv
  have hcp2 : ∀ ty, (Builtin.copy_ #[23, 23] ty #[.slice (some ⟨g, i * 2, none⟩) (n + 1 - i) (c - i), .slice (some ⟨vb, 0, none⟩) 1 vc]).run Try.prog (w.drew.setRow g (A ++ T ++ Q ++ D).toArray) = .ok (goInt 1) ((w.drew.setRow g (A ++ T ++ Q ++ D).toArray).setRow g (A ++ X ++ Q ++ D).toArray) := fun ty => by
    have h := run_copyM (P := Try.prog) (w := w.drew.setRow g (A ++ T ++ Q ++ D).toArray) (dT := 23) (sT := 23) (ty := ty) Try.underlying23 hsz (g := g) (o := i * 2) (dLen := n + 1 - i) (dCap := c - i) hg1 (A := ⟨vb, 0, none⟩) (sLen := 1) (sCap := vc) (m := 1) (by simp only [Nat.min_def]; split <;> omega) (load_part hv1 rfl (by omega)) (by simp; omega) (by simp; omega) (by simpa using hX1)
    rw [h]
    have e1 : (A ++ T ++ Q ++ D).take (i * 2) = A := by
      rw [List.append_assoc, List.append_assoc]
      exact List.take_left' hA
    have e2 : (A ++ T ++ Q ++ D).drop (i * 2 + 1 * 2) = Q ++ D := by
      rw [List.append_assoc (A ++ T)]
      exact List.drop_left' (by simp; omega)
    simp only [e1, e2]
    simp only [List.append_assoc]
    rfl
  rw [hd5]
  have hg2 := setRow_heap _ g _ (A ++ X ++ Q ++ D).toArray _ _ hg1
  have hk2 : Kept g w ((w.drew.setRow g (A ++ T ++ Q ++ D).toArray).setRow g (A ++ X ++ Q ++ D).toArray) := (Kept.drew.row _).row _
  generalize hW2 : (w.drew.setRow g (A ++ T ++ Q ++ D).toArray).setRow g (A ++ X ++ Q ++ D).toArray = W2 at hcp2 hg2 hk2
  generalize hW1 : w.drew.setRow g (A ++ T ++ Q ++ D).toArray = W1 at hcp1 hcp2
  clear hW1 hW2
  go_enter Try.func31, Try.ntmps31
  go_wp2_with (simp only [hov])
  go_region_law_o (refine step_copyM rfl _ _ 23 23 rfl _ _ (by simp [Act.eval, Act.put]) (by simp [Act.eval, Act.put]) (hcp1 _) ?_)
  go_wp2_with (at_builtin; refine wpList_copyM _ rfl _ _ 23 23 rfl _ _ rfl rfl (hcp2 _) ?_)
  go_ret
  exact ⟨rfl, hg2, hk2⟩
end Go.Proofs.Ytklbfafdioeehaa.E
