/-
  Ins3: walks of functions of the program at data level.
-/
import Derived.Test.YtklbfafdioeehaaIns2
set_option linter.unusedVariables false
set_option linter.unusedSimpArgs false
namespace Go.Proofs.Ytklbfafdioeehaa.E
open Go Go.RowKit Go.Lib
set_option maxHeartbeats 1000000
set_option maxRecDepth 100000
set_option linter.unusedSimpArgs false
set_option linter.unusedVariables false
theorem wpList_appM {P : Program} (w : World) {ops : Array Oper} {rest : List Oper} {o : Oper} {a : Act} {Q : Exit → Act → World → Prop} (hgd : o.guard = none) (d s : Operand) (t t' ty : TypeId) (hty : o.type = ty)
    (ho : o.op = .call { callee := .builtin .append, args := #[d, s], argTypes := #[t, t'] }) (v u : Value) (hd : a.eval d = v) (hs : a.eval s = u) {v' : Value} {w' : World}
    (hr : (Builtin.append_ #[t, t'] ty #[v, u]).run P w = .ok v' w') (h : wpList P ops Q rest (a.put o.dst v') w') : wpList P ops Q (o :: rest) a w := by
  refine wpList_plain hgd fun _ hK => ?_
  unfold Oper.wp execOp
  simp only [ho, hty, resolve, invoke, builtin, Sem.run_bind, Sem.run_pure, Result.andThen_ok, List.map_toArray, List.map_cons, List.map_nil, hd, hs, hr]
  exact hK _ _ h
theorem ins_end {w w' : World} {A : Option Addr} {n c vb vc : Nat} {v' : Value} (hA : A = none → c = 0) (hnc : n ≤ c) (hc : c ≤ 9223372036854775807)
    (happ : (Builtin.append_ #[23, 23] 23 #[.slice A n c, .slice (some ⟨vb, 0, none⟩) 1 vc]).run Try.prog w = .ok v' w') :
    Calls Try.prog 31 #[.slice A n c, .int .i64 n, .slice (some ⟨vb, 0, none⟩) 1 vc] w fun e w'' => e = .returned v' ∧ w'' = w' := by
  have t3 := Try.underlying3; have a3 := Try.isAgg3; have z3 := Try.sizeOf3; have v3 := Try.zeroValue3
  have t4 := Try.underlying4; have a4 := Try.isAgg4; have z4 := Try.sizeOf4; have v4 := Try.zeroValue4
  have t23 := Try.underlying23; have a23 := Try.isAgg23; have z23 := Try.sizeOf23; have v23 := Try.zeroValue23
  have t49 := Try.underlying49; have a49 := Try.isAgg49; have z49 := Try.sizeOf49; have v49 := Try.zeroValue49
  have u3 := run_underlying Try.underlying3; have u4 := run_underlying Try.underlying4; have u23 := run_underlying Try.underlying23
  cases A with
  | none =>
    obtain rfl := hA rfl
    obtain rfl : n = 0 := by omega
    go_enter Try.func31, Try.ntmps31
    go_wp2_with (at_builtin; refine wpList_appM _ rfl _ _ 23 23 23 rfl rfl _ _ rfl rfl happ ?_)
    go_ret
    exact ⟨rfl, rfl⟩
  | some a =>
    go_enter Try.func31, Try.ntmps31
    go_wp2_with (at_builtin; refine wpList_appM _ rfl _ _ 23 23 23 rfl rfl _ _ rfl rfl happ ?_)
    all_goals go_ret
    all_goals exact ⟨rfl, rfl⟩
theorem ins_grow {w : World} {g n i vb vc : Nat} {A Q X V : List Value} (hg : w.heap[g]? = some (.cells (A ++ Q).toArray 49 (0, 0))) (hA : A.length = i * 2) (hQ : Q.length = (n - i) * 2) (hn : n ≤ 1000) (hi : i < n)
    (hv : w.heap[vb]? = some (.cells (X ++ V).toArray 49 (0, 0))) (hX : X.length = 2) (hQ1 : ∀ u ∈ Q, u.oneCell' = true) (hX1 : ∀ u ∈ X, u.oneCell' = true) :
    Calls Try.prog 31 #[.slice (some ⟨g, 0, none⟩) n n, .int .i64 i, .slice (some ⟨vb, 0, none⟩) 1 vc] w fun e w' => ∃ G Z, e = .returned (.slice (some ⟨w.heap.size, 0, none⟩) (n + 1) G) ∧ n + 1 ≤ G ∧ G ≤ maxLen ∧ Z.length = (G - (n + 1)) * 2 ∧
      w'.heap[w.heap.size]? = some (.cells (A ++ X ++ Q ++ Z).toArray 49 (0, 0)) ∧ Kept w.heap.size w w' := by
  have t3 := Try.underlying3; have a3 := Try.isAgg3; have z3 := Try.sizeOf3; have v3 := Try.zeroValue3
  have t4 := Try.underlying4; have a4 := Try.isAgg4; have z4 := Try.sizeOf4; have v4 := Try.zeroValue4
  have t23 := Try.underlying23; have a23 := Try.isAgg23; have z23 := Try.sizeOf23; have v23 := Try.zeroValue23
  have t49 := Try.underlying49; have a49 := Try.isAgg49; have z49 := Try.sizeOf49; have v49 := Try.zeroValue49
  have u3 := run_underlying Try.underlying3; have u4 := run_underlying Try.underlying4; have u23 := run_underlying Try.underlying23
  have hsz : szT Try.prog 49 = some 2 := by kernel_rfl
  have hz2 : ¬ ((i : Int) = (n : Int)) := by omega
  have mixed : Try.prog.follows .mixedOrders = true := by kernel_rfl
  obtain ⟨i0, hi0, hz0, hzs, hzb⟩ := info_parts (show (Try.prog.info? 49).map (fun i => (i.zero, i.size, i.bytes)) = some (some (.agg #[.string ⟨#[]⟩, .string ⟨#[]⟩]), 2, 32) by kernel_rfl)
  have hgd : w.drew.heap[g]? = some (.cells ([] ++ A ++ Q).toArray 49 (0, 0)) := hg
  have hold : (Builtin.firstCells i0.size i (.slice (some ⟨g, 0, none⟩) i n)).run Try.prog w.drew = .ok A.toArray w.drew := by
    rw [hzs]
    exact load_part hgd rfl hA
  have hgw : g < w.heap.size := (Array.getElem?_eq_some_iff.1 hg).1
  have hvw : vb < w.heap.size := (Array.getElem?_eq_some_iff.1 hv).1
  have hG1 := grownCap_ge w (n + 1) n 49
  have hG2 := grownCap_le_maxLen w (n + 1) n 49 (by simp only [maxLen]; omega)
  have hik : i + (n + 1 - i) = n + 1 := by omega
  have hrz : ∀ ty, (Builtin.append_ #[23, 3] ty #[.slice (some ⟨g, 0, none⟩) i n, .int .i64 ((n : Int) + 1 - (i : Int))]).run Try.prog w =
      .ok (.slice (some ⟨w.heap.size, 0, none⟩) (n + 1) (grownCap w (n + 1) n 49)) (w.drew.alloc (.cells (A.toArray ++ Builtin.zeroCells #[.string ⟨#[]⟩, .string ⟨#[]⟩] (n + 1 - i) ++ Builtin.zeroCells #[.string ⟨#[]⟩, .string ⟨#[]⟩] (grownCap w (n + 1) n 49 - (n + 1))) 49)) := fun ty => by
    have h := Lib.run_append_grow_zeros w 23 3 ty 49 i0 _ .i64 .i64 Try.underlying23 Try.underlying3 hi0 hz0 (some ⟨g, 0, none⟩) i n A hold (n + 1 - i) (by omega) (by omega) (by omega) (by omega) (by rw [hzb]; omega) (by rw [hzb, hik]; exact growslice_fits (by omega) (by omega))
    rw [hik] at h
    have hk : (n : Int) + 1 - (i : Int) = ((n + 1 - i : Nat) : Int) := by omega
    rw [hk]
    exact h
  generalize hGG : grownCap w (n + 1) n 49 = G at *
  obtain ⟨Z1, hZ1, hZ1l⟩ : ∃ Z1 : List Value, Builtin.zeroCells #[.string ⟨#[]⟩, .string ⟨#[]⟩] (n + 1 - i) = Z1.toArray ∧ Z1.length = (n + 1 - i) * 2 := ⟨(Builtin.zeroCells #[.string ⟨#[]⟩, .string ⟨#[]⟩] (n + 1 - i)).toList, by simp, by simp [size_zeroCells]⟩
  obtain ⟨Z, hZ, hZl⟩ : ∃ Z : List Value, Builtin.zeroCells #[.string ⟨#[]⟩, .string ⟨#[]⟩] (G - (n + 1)) = Z.toArray ∧ Z.length = (G - (n + 1)) * 2 := ⟨(Builtin.zeroCells #[.string ⟨#[]⟩, .string ⟨#[]⟩] (G - (n + 1))).toList, by simp, by simp [size_zeroCells]⟩
  rw [hZ1, hZ, List.append_toArray, List.append_toArray] at hrz
  obtain ⟨Z5, Y, hZ5, hZ5l⟩ : ∃ Z5 Y, Z1 = Z5 ++ Y ∧ Z5.length = 2 := ⟨Z1.take 2, Z1.drop 2, by simp, by rw [List.length_take]; omega⟩
  have hYl : Y.length = (n - i) * 2 := by
    have := congrArg List.length hZ5
    simp only [List.length_append] at this
    omega
  have hW1 : (w.drew.alloc (.cells (A ++ Z1 ++ Z).toArray 49)).heap[w.heap.size]? = some (.cells (A ++ Z1 ++ Z).toArray 49 (0, 0)) := heap_alloc_new w.drew _
  have hold1 : ∀ j, j < w.heap.size → (w.drew.alloc (.cells (A ++ Z1 ++ Z).toArray 49)).heap[j]? = w.heap[j]? := fun j hj => heap_alloc_old w.drew _ hj
  have hk1 : Kept w.heap.size w (w.drew.alloc (.cells (A ++ Z1 ++ Z).toArray 49)) := ⟨fun j _ hj => hold1 j hj, by simp, rfl, rfl, rfl⟩
  generalize w.drew.alloc (.cells (A ++ Z1 ++ Z).toArray 49) = W1 at hrz hW1 hold1 hk1
  have hv1 : W1.heap[vb]? = some (.cells ([] ++ X ++ V).toArray 49 (0, 0)) := by rw [hold1 vb hvw]; exact hv
  have hcp1 : ∀ ty, (Builtin.copy_ #[23, 23] ty #[.slice (some ⟨w.heap.size, i * 2, none⟩) (n + 1 - i) (G - i), .slice (some ⟨vb, 0, none⟩) 1 vc]).run Try.prog W1 = .ok (goInt 1) (W1.setRow w.heap.size (A ++ X ++ Y ++ Z).toArray) := fun ty => by
    have h := run_copyM (P := Try.prog) (w := W1) (dT := 23) (sT := 23) (ty := ty) Try.underlying23 hsz (g := w.heap.size) (o := i * 2) (dLen := n + 1 - i) (dCap := G - i) hW1 (A := ⟨vb, 0, none⟩) (sLen := 1) (sCap := vc) (m := 1) (by simp only [Nat.min_def]; split <;> omega) (load_part hv1 rfl (by omega)) (by simp; omega) (by simp; omega) (by simpa using hX1)
    rw [h]
    have e1 : (A ++ Z1 ++ Z).take (i * 2) = A := by
      rw [List.append_assoc]
      exact List.take_left' hA
    have e2 : (A ++ Z1 ++ Z).drop (i * 2 + 1 * 2) = Y ++ Z := by
      rw [hZ5, ← List.append_assoc, List.append_assoc (A ++ Z5)]
      exact List.drop_left' (by simp; omega)
    simp only [e1, e2]
    simp only [List.append_assoc]
    rfl
  have hW2 : (W1.setRow w.heap.size (A ++ X ++ Y ++ Z).toArray).drew.heap[w.heap.size]? = some (.cells (A ++ X ++ Y ++ Z).toArray 49 (0, 0)) := setRow_heap W1 _ _ _ _ _ hW1
  have hg2 : (W1.setRow w.heap.size (A ++ X ++ Y ++ Z).toArray).drew.heap[g]? = some (.cells (A ++ Q ++ []).toArray 49 (0, 0)) := by
    have : (W1.setRow w.heap.size (A ++ X ++ Y ++ Z).toArray).heap[g]? = some (.cells (A ++ Q ++ []).toArray 49 (0, 0)) := by
      rw [setRow_other _ _ g _ (by omega), hold1 g hgw, List.append_nil]
      exact hg
    exact this
  have hk2 := hk1.row (A ++ X ++ Y ++ Z).toArray
  generalize W1.setRow w.heap.size (A ++ X ++ Y ++ Z).toArray = W2 at hcp1 hW2 hg2 hk2
  have hcp2 : ∀ ty, (Builtin.copy_ #[23, 23] ty #[.slice (some ⟨w.heap.size, (i + 1) * 2, none⟩) (n + 1 - (i + 1)) (G - (i + 1)), .slice (some ⟨g, i * 2, none⟩) (n - i) (n - i)]).run Try.prog W2.drew = .ok (goInt (n - i)) (W2.drew.setRow w.heap.size (A ++ X ++ Q ++ Z).toArray) := fun ty => by
    have h := run_copyM (P := Try.prog) (w := W2.drew) (dT := 23) (sT := 23) (ty := ty) Try.underlying23 hsz (g := w.heap.size) (o := (i + 1) * 2) (dLen := n + 1 - (i + 1)) (dCap := G - (i + 1)) hW2 (A := ⟨g, i * 2, none⟩) (sLen := n - i) (sCap := n - i) (m := n - i) (by simp only [Nat.min_def]; split <;> omega) (load_part hg2 hA hQ) (by simpa using hQ) (by simp; omega) (by simpa using hQ1)
    rw [h]
    have e1 : (A ++ X ++ Y ++ Z).take ((i + 1) * 2) = A ++ X := by
      rw [List.append_assoc (A ++ X)]
      exact List.take_left' (by simp; omega)
    have e2 : (A ++ X ++ Y ++ Z).drop ((i + 1) * 2 + (n - i) * 2) = Z := List.drop_left' (by simp; omega)
    simp only [e1, e2]
    congr 1
    simp [goInt]
    omega
  have hW3 := setRow_heap W2.drew _ _ (A ++ X ++ Q ++ Z).toArray _ _ hW2
  have hk3 := hk2.draw.row (A ++ X ++ Q ++ Z).toArray
  generalize W2.drew.setRow w.heap.size (A ++ X ++ Q ++ Z).toArray = W3 at hcp2 hW3 hk3
  clear hW1 hold1 hk1 hv1 hW2 hg2 hk2 hgd hold hGG
  have hw1 : IntKind.i64.wrap ((i : Int) + 1) = (i : Int) + 1 := by rw [IntKind.wrap_i64]; omega
  have hw2 : IntKind.i64.wrap ((n : Int) + 1 - i) = (n : Int) + 1 - i := by rw [IntKind.wrap_i64]; omega
  have hb1 : (0 : Int) ≤ (i : Int) + 1 := by omega
  have htn : ((i : Int) + 1).toNat = i + 1 := by omega
  have hb2 : ¬ (G = i + 1) := by omega
  have hb3 : (i : Int) ≤ (n : Int) + 1 := by omega
  have hb4 : ¬ (G = i) := by omega
  have hb5 : ¬ (n = i) := by omega
  have hin : i ≤ n := by omega
  go_enter Try.func31, Try.ntmps31
  go_wp2_with (first | (at_builtin; refine wpList_appM _ rfl _ _ 23 3 23 rfl rfl _ _ rfl rfl (hrz 23) ?_) | (at_builtin; refine wpList_copyM _ rfl _ _ 23 23 rfl _ _ rfl rfl (hcp1 _) ?_))
  go_region_law_o (refine step_copyM rfl _ _ 23 23 rfl _ _ (by simp [Act.eval, Act.put]) (by simp [Act.eval, Act.put]) (hcp2 _) ?_)
  go_wp2
  go_ret
  exact ⟨G, Z, rfl, hG1, hG2, hZl, hW3, hk3⟩
end Go.Proofs.Ytklbfafdioeehaa.E
