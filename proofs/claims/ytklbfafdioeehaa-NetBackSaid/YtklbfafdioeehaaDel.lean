/-
  Del: walks of functions of the program at data level.
-/
import Derived.Test.YtklbfafdioeehaaIns4
import Derived.Laws.AppendOwn
set_option linter.unusedVariables false
set_option linter.unusedSimpArgs false
namespace Go.Proofs.Ytklbfafdioeehaa.E
open Go Go.RowKit Go.Lib
set_option maxHeartbeats 1000000
set_option maxRecDepth 100000
set_option linter.unusedSimpArgs false
set_option linter.unusedVariables false
theorem step_appM {P : Program} {ops : Array Oper} {o : Oper} {a : Act} {w : World} {K : Act → World → Prop} {Q : Exit → Act → World → Prop} {E : Prop}
    (hg : o.guard = none) (d x : Operand) (t : TypeId) (hop : o.op = Op.call { callee := Callee.builtin Builtin.append, args := #[d, x], argTypes := #[t, t] })
    (v u : Value) (hd : a.eval d = v) (hx : a.eval x = u) {v' : Value} {w' : World} (hr : (Builtin.append_ #[t, t] o.type #[v, u]).run P w = .ok v' w') (hK : K (a.put o.dst v') w') :
    if Region.wanted o (yielded ops a.tmps) = true then Oper.wp P o a w K Q else E := by
  have hw : Region.wanted o (yielded ops a.tmps) = true := by simp [Region.wanted, hg]
  rw [if_pos hw]
  unfold Oper.wp
  simp [execOp, hop, resolve, invoke, builtin, hd, hx, hr, Result.andThen]
  exact hK
theorem wpList_clearM {P : Program} (w : World) {ops : Array Oper} {rest : List Oper} {o : Oper} {a : Act} {Q : Exit → Act → World → Prop} (hgd : o.guard = none) (x : Operand) (t : TypeId)
    (ho : o.op = .call { callee := .builtin .clear, args := #[x], argTypes := #[t] }) (v : Value) (hx : a.eval x = v) {v' : Value} {w' : World}
    (hr : (Builtin.clear_ #[t] o.type #[v]).run P w = .ok v' w') (h : wpList P ops Q rest (a.put o.dst v') w') : wpList P ops Q (o :: rest) a w := by
  refine wpList_plain hgd fun _ hK => ?_
  unfold Oper.wp execOp
  simp only [ho, resolve, invoke, builtin, Sem.run_bind, Sem.run_pure, Result.andThen_ok, List.map_toArray, List.map_cons, List.map_nil, hx, hr]
  exact hK _ _ h
theorem del_calls {w : World} {g n c i : Nat} {A B C R : List Value} (hg : w.heap[g]? = some (.cells (A ++ B ++ C ++ R).toArray 31 (0, 0))) (hA : A.length = i * 10) (hB : B.length = 10) (hC : C.length = (n - (i + 1)) * 10) (hR : R.length = (c - n) * 10) (hn : n ≤ c) (hc : c ≤ 9223372036854775807) (hi : i < n)
    (hC1 : ∀ u ∈ C, u.oneCell' = true) :
    Calls Try.prog 34 #[.slice (some ⟨g, 0, none⟩) n c, .int .i64 i, .int .i64 ((i : Int) + 1)] w fun e w' => ∃ Z, e = .returned (.slice (some ⟨g, 0, none⟩) (i + (n - (i + 1))) c) ∧ Z.length = 10 ∧ w'.heap[g]? = some (.cells (A ++ C ++ Z ++ R).toArray 31 (0, 0)) ∧ Kept g w w' := by
  have t3 := Try.underlying3; have a3 := Try.isAgg3; have z3 := Try.sizeOf3; have v3 := Try.zeroValue3
  have t4 := Try.underlying4; have a4 := Try.isAgg4; have z4 := Try.sizeOf4; have v4 := Try.zeroValue4
  have t22 := Try.underlying22; have a22 := Try.isAgg22; have z22 := Try.sizeOf22; have v22 := Try.zeroValue22
  have t31 := Try.underlying31; have a31 := Try.isAgg31; have z31 := Try.sizeOf31; have v31 := Try.zeroValue31
  have u3 := run_underlying Try.underlying3; have u4 := run_underlying Try.underlying4; have u22 := run_underlying Try.underlying22
  have mixed : Try.prog.follows .mixedOrders = true := by kernel_rfl
  obtain ⟨i0, hi0, hz0, hzs, hzb⟩ := info_parts (show (Try.prog.info? 31).map (fun i => (i.zero, i.size, i.bytes)) = some (some (.agg #[.string ⟨#[]⟩, .string ⟨#[]⟩, .int .i64 0, .int .i64 0, .string ⟨#[]⟩, .slice none 0 0, .slice none 0 0, .slice none 0 0, .string ⟨#[]⟩, .int .i64 0]), 10, 160) by kernel_rfl)
  have hgd : w.drew.heap[g]? = some (.cells (A ++ B ++ C ++ R).toArray 31 (0, 0)) := hg
  obtain ⟨ad, had, hsrc⟩ : ∃ ad : Addr, (if c = i + 1 then (some ⟨g, 0, none⟩ : Option Addr) else some ⟨g, (i + 1) * 10, none⟩) = some ad ∧ ∀ j u, C[j]? = some u → w.drew.cell? (ad.add j) = some u := by
    by_cases h : c = i + 1
    · refine ⟨⟨g, 0, none⟩, by simp [h], fun j u hu => ?_⟩
      have : C.length = 0 := by rw [hC]; omega
      rw [List.length_eq_zero_iff.1 this] at hu
      simp at hu
    · refine ⟨⟨g, (i + 1) * 10, none⟩, by simp [h], fun j u hu => ?_⟩
      rw [Addr.add_lit, cell_of_row w.drew g _ _ 31 (0, 0) hgd]
      have hlt := (List.getElem?_eq_some_iff.1 hu).1
      rw [List.getElem?_toArray, List.append_assoc, List.getElem?_append_right (by simp; omega), List.getElem?_append_left (by simp; omega), ← hu]
      congr 1
      simp
      omega
  have hap : ∀ ty, (Builtin.append_ #[22, 22] ty #[.slice (some ⟨g, 0, none⟩) i c, .slice (some ad) (n - (i + 1)) (c - (i + 1))]).run Try.prog w.drew = .ok (.slice (some ⟨g, 0, none⟩) (i + (n - (i + 1))) c)
      (w.drew.setRow g ((A ++ B ++ C ++ R).take (i * 10) ++ C ++ (A ++ B ++ C ++ R).drop (i * 10 + C.length)).toArray) := fun ty => by
    have h := run_append_room (P := Try.prog) w.drew 22 ty 31 i0 Try.underlying22 hi0 g i c _ hgd ad (n - (i + 1)) (c - (i + 1)) C (by rw [hzs]; exact hC) hsrc hC1 (by omega) (by rw [hzs]; simp; omega)
    rw [hzs] at h
    simpa using h
  have hrow : (A ++ B ++ C ++ R).take (i * 10) ++ C ++ (A ++ B ++ C ++ R).drop (i * 10 + C.length) = A ++ C ++ ((B ++ C).drop C.length ++ R) := by
    have e1 : (A ++ B ++ C ++ R).take (i * 10) = A := by
      rw [List.append_assoc, List.append_assoc]
      exact List.take_left' hA
    have e2 : (A ++ B ++ C ++ R).drop (i * 10 + C.length) = (B ++ C).drop C.length ++ R := by
      rw [List.append_assoc (A ++ B), List.append_assoc A, ← List.append_assoc B, ← List.drop_drop, List.drop_left' hA, List.drop_append_of_le_length (by simp)]
    rw [e1, e2]
  rw [hrow] at hap
  obtain ⟨D, hD, hDl⟩ : ∃ D, D = (B ++ C).drop C.length ∧ D.length = 10 := ⟨_, rfl, by simp [hB]⟩
  rw [← hD] at hap
  have hg1 := setRow_heap w.drew g _ (A ++ C ++ (D ++ R)).toArray _ _ hgd
  have hk1 : Kept g w (w.drew.setRow g (A ++ C ++ (D ++ R)).toArray) := Kept.drew.row _
  generalize w.drew.setRow g (A ++ C ++ (D ++ R)).toArray = W1 at hap hg1 hk1
  obtain ⟨Z, hZ, hZl, hZ1⟩ : ∃ Z : List Value, (Builtin.zeroCells #[.string ⟨#[]⟩, .string ⟨#[]⟩, .int .i64 0, .int .i64 0, .string ⟨#[]⟩, .slice none 0 0, .slice none 0 0, .slice none 0 0, .string ⟨#[]⟩, .int .i64 0] 1).toList = Z ∧ Z.length = 10 ∧ ∀ u ∈ Z, u.oneCell' = true := ⟨_, rfl, by decide +kernel, by decide +kernel⟩
  have hn1 : n - (i + (n - (i + 1))) = 1 := by omega
  have hcl : ∀ ty, (Builtin.clear_ #[22] ty #[.slice (some ⟨g, (i + (n - (i + 1))) * 10, none⟩) 1 (c - (i + (n - (i + 1))))]).run Try.prog W1 = .ok (.tuple #[]) (W1.setRow g (A ++ C ++ Z ++ R).toArray) := fun ty => by
    have hst := run_storeCells_at Try.prog g ((i + (n - (i + 1))) * 10) 31 Z 0 _ W1 hg1 (by simp; omega) hZ1
    simp only [Nat.add_zero] at hst
    have e3 : ((A ++ C ++ (D ++ R)).toArray.toList.take ((i + (n - (i + 1))) * 10) ++ Z ++ (A ++ C ++ (D ++ R)).toArray.toList.drop ((i + (n - (i + 1))) * 10 + Z.length)) = A ++ C ++ Z ++ R := by
      have e4 : (A ++ C ++ (D ++ R)).take ((i + (n - (i + 1))) * 10) = A ++ C := List.take_left' (by simp; omega)
      have e5 : (A ++ C ++ (D ++ R)).drop ((i + (n - (i + 1))) * 10 + Z.length) = R := by
        rw [← List.append_assoc (A ++ C)]
        exact List.drop_left' (by simp; omega)
      simp only [List.toList_toArray, e4, e5]
    rw [e3] at hst
    simp [Builtin.clear_, run_underlying Try.underlying22, Try.zeroValue31, Value.cells, hZ, hst]
  have hg2 := setRow_heap W1 g _ (A ++ C ++ Z ++ R).toArray _ _ hg1
  have hk2 := hk1.row (A ++ C ++ Z ++ R).toArray
  generalize W1.setRow g (A ++ C ++ Z ++ R).toArray = W2 at hcl hg2 hk2
  clear hgd hsrc hrow hD hDl hg1 hk1 hZ hg
  have hb1 : ¬ ((i : Int) = (i : Int) + 1) := by omega
  have hb2 : (0 : Int) ≤ (i : Int) + 1 := by omega
  have hb3 : ((i : Int) + 1).toNat = i + 1 := by omega
  have hb4 : i ≤ i + 1 := by omega
  have hb5 : i + 1 ≤ n := by omega
  have hb6 : i + 1 ≤ c := by omega
  have hb7 : i ≤ c := by omega
  have hb8 : i + (n - (i + 1)) ≤ n := by omega
  have hb9 : ¬ (c = i + (n - (i + 1))) := by omega
  have hb10 : n ≤ c := hn
  have hb11 : (i : Int) + 1 ≤ (n : Int) := by omega
  have hb12 : (i : Int) ≤ (i : Int) + 1 := by omega
  go_enter Try.func34, Try.ntmps34
  go_wp2_with fail
  go_region_law_o (refine step_appM rfl _ _ 22 rfl _ _ (by simp [Act.eval, Act.put]) (by simp [Act.eval, Act.put]) (hap _) ?_)
  go_wp2_with (simp only [hcl])
  go_ret
  exact ⟨Z, rfl, hZl, hg2, hk2⟩
end Go.Proofs.Ytklbfafdioeehaa.E
