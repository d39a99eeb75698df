/-
  Del2: walks of functions of the program at data level.
-/
import Derived.Test.YtklbfafdioeehaaDel
set_option linter.unusedVariables false
set_option linter.unusedSimpArgs false
namespace Go.Proofs.Ytklbfafdioeehaa.E
open Go Go.RowKit Go.Lib
set_option maxHeartbeats 1000000
set_option maxRecDepth 100000
set_option linter.unusedSimpArgs false
set_option linter.unusedVariables false
theorem spec34 (xs : List (List DV)) (i : Nat) (hi : i < xs.length) : Spec Try.prog 34 [.own 31 10 xs, .fz (.int .i64 i), .fz (.int .i64 ((i : Int) + 1))] (.own 31 10 (xs.take i ++ xs.drop (i + 1))) := by
  refine ⟨by kernel_rfl, fun F w vs hfwf hargs hdis => ?_⟩
  obtain ⟨v0, r0, e0, hv0, hargs⟩ := hargs
  obtain ⟨v1, r1, e1, hv1, hargs⟩ := hargs
  obtain ⟨v2, r2, e2, hv2, hargs⟩ := hargs
  have hr2 : r2 = [] := hargs
  subst hr2 e2 e1
  have hvs : vs = #[v0, v1, v2] := by
    apply Array.ext'
    rw [e0]
  subst hvs
  clear e0
  have hv0 : VecOK F w (fun _ => True) 31 10 xs v0 := hv0
  have hv1 : RF F w (.int .i64 i) v1 := hv1
  have hv2 : RF F w (.int .i64 ((i : Int) + 1)) v2 := hv2
  rw [RF] at hv1 hv2
  subst hv1 hv2
  obtain ⟨hs, hv0'⟩ := hv0
  rcases hv0' with ⟨h, _⟩ | ⟨g, c, cur, rfl, hc0, _, hF, hgh, hnc, hcm, hcs, h1c, hall⟩
  · subst h
    simp at hi
  have hcl : cur.toList.length = c * 10 := by simpa using hcs
  have hcm10 : xs.length * 10 ≤ c * 10 := by omega
  -- the row in four parts
  obtain ⟨A, B, C, R, hcur, hA, hB, hC, hR⟩ : ∃ A B C R : List Value, cur.toList = A ++ B ++ C ++ R ∧ A.length = i * 10 ∧ B.length = 10 ∧ C.length = (xs.length - (i + 1)) * 10 ∧ R.length = (c - xs.length) * 10 := by
    refine ⟨cur.toList.take (i * 10), (cur.toList.drop (i * 10)).take 10, (cur.toList.drop (i * 10 + 10)).take ((xs.length - (i + 1)) * 10), cur.toList.drop (i * 10 + 10 + (xs.length - (i + 1)) * 10), ?_, ?_, ?_, ?_, ?_⟩
    · have d1 : cur.toList.drop (i * 10 + 10) = (cur.toList.drop (i * 10)).drop 10 := by rw [List.drop_drop]
      have d2 : cur.toList.drop (i * 10 + 10 + (xs.length - (i + 1)) * 10) = ((cur.toList.drop (i * 10)).drop 10).drop ((xs.length - (i + 1)) * 10) := by rw [List.drop_drop, List.drop_drop, Nat.add_assoc]
      rw [d1, d2, List.append_assoc, List.append_assoc, List.take_append_drop, List.take_append_drop, List.take_append_drop]
    · rw [List.length_take]; omega
    · rw [List.length_take, List.length_drop]; omega
    · rw [List.length_take, List.length_drop]; omega
    · rw [List.length_drop]; omega
  have hgh' : w.heap[g]? = some (.cells (A ++ B ++ C ++ R).toArray 31 (0, 0)) := by
    rw [← hcur]
    simpa using hgh
  have htk : cur.toList.take (xs.length * 10) = A ++ B ++ C := by
    rw [hcur]
    exact List.take_left' (by simp only [List.length_append]; omega)
  rw [htk] at h1c hall
  have hft := flat_takeI xs i hs
  have hft2 := flat_takeI xs (i + 1) hs
  have hallA : All2 (RF F w) (xs.take i).flatten A := by
    rw [hft.1]
    rw [List.append_assoc] at hall
    exact All2.take' hall hA
  have hallC : All2 (RF F w) (xs.drop (i + 1)).flatten C := by
    rw [hft2.2]
    have := hall.drop ((i + 1) * 10)
    rwa [List.drop_left' (by simp only [List.length_append]; omega)] at this
  have hlen : (xs.take i ++ xs.drop (i + 1)).length = i + (xs.length - (i + 1)) := by
    simp only [List.length_append, List.length_take, List.length_drop]
    omega
  refine (del_calls hgh' hA hB hC hR hnc (by simpa [maxLen] using hcm) hi (fun u hu => h1c u (by simp [hu]))).mono ?_
  rintro e w' ⟨Z, rfl, hZ, g1, hk⟩
  have hgb : ownB [.own 31 10 xs, .fz (.int .i64 i), .fz (.int .i64 ((i : Int) + 1))] #[.slice (some ⟨g, 0, none⟩) xs.length c, .int .i64 i, .int .i64 ((i : Int) + 1)].toList g := ⟨0, 31, 10, xs, _, rfl, rfl, by simp only [hblk, if_neg (Nat.pos_iff_ne_zero.1 hc0)]⟩
  have hkp : Keeps F w F w' := ⟨fun _ _ h => h, fun b o hb => by
    refine cell_of_block (hk.same b ?_ (hfwf b o hb)) o
    intro h
    subst h
    exact hF o hb⟩
  refine ⟨_, F, rfl, ⟨fun _ _ h => h, fun _ _ h => .inl h, fun b o h => Nat.lt_of_lt_of_le (hfwf b o h) hk.size, hk.size, fun b hb hO => ?_, hk.os, hk.tape, hk.output⟩, ?_⟩
  · by_cases hbg : b = g
    · subst hbg
      exact absurd hgb hO
    · exact hk.same b hbg hb
  · have etk : (A ++ C ++ Z ++ R).take ((xs.take i ++ xs.drop (i + 1)).length * 10) = A ++ C := by
      rw [hlen, List.append_assoc (A ++ C)]
      exact List.take_left' (by simp only [List.length_append]; omega)
    refine ⟨?_, .inr ⟨g, c, (A ++ C ++ Z ++ R).toArray, by rw [hlen], hc0, .inr hgb, hF, g1, by omega, hcm, ?_, ?_, ?_⟩⟩
    · intro y hy
      rcases List.mem_append.1 hy with h | h
      · exact hs y (List.mem_of_mem_take h)
      · exact hs y (List.mem_of_mem_drop h)
    · simp only [List.size_toArray, List.length_append]
      omega
    · show ∀ u ∈ (A ++ C ++ Z ++ R).take _, _
      rw [etk]
      intro u hu
      rcases List.mem_append.1 hu with h | h
      · exact h1c u (by simp [h])
      · exact h1c u (by simp [h])
    · show All2 _ _ ((A ++ C ++ Z ++ R).take _)
      rw [etk, List.flatten_append]
      exact (hallA.append hallC).mono fun _ _ => RF.mono hkp _ _
end Go.Proofs.Ytklbfafdioeehaa.E
