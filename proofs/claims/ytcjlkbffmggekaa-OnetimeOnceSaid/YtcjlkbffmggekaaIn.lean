/-
  In: walks of functions of the program at data level.
-/
import Derived.Test.YtcjlkbffmggekaaProg
import Derived.Test.YtcjlkbffmggekaaEngZ
import Derived.Shelf.RegionOpenPlain
import Derived.WalkKit
import Derived.Lib.Walk
import Derived.Lib.SliceRun
import Derived.Lib.JoinLaws
import Derived.Lib.AppendZeros
import Derived.Lib.Overlaps
import Derived.Laws.Externs
import Derived.Laws.IdiomCopy
import Derived.Laws.CopyRow
import Derived.KernelRfl
import Derived.Lib.AppendZerosOnto
set_option linter.unusedVariables false
set_option linter.unusedSimpArgs false
namespace Go.Proofs.Ytcjlkbffmggekaa.E
open Go Go.RowKit Go.Lib
set_option maxHeartbeats 4000000
set_option maxRecDepth 100000
set_option linter.unusedSimpArgs false
set_option linter.unusedVariables false
/-- 'copy' between rows of elements of whatever size -/
theorem run_copyM {P : Program} {w : World} {dT sT ty e : TypeId} {sz : Nat} (hu : P.underlying dT = some (.slice e)) (hs : szT P e = some sz) {g o dLen dCap : Nat} {cur : Array Value} {t : TypeId} (hg : w.heap[g]? = some (.cells cur t (0, 0)))
    {A : Addr} {sLen sCap : Nat} {cs : Array Value} {m : Nat} (hm : Nat.min sLen dLen = m) (hl : (loadCells A (m * sz)).run P w = .ok cs w) (hsz : cs.size = m * sz) (hfit : o + m * sz ≤ cur.size) (h1 : ∀ u ∈ cs.toList, u.oneCell' = true) :
    (Builtin.copy_ #[dT, sT] ty #[.slice (some ⟨g, o, none⟩) dLen dCap, .slice (some A) sLen sCap]).run P w = .ok (goInt m) (w.setRow g (cur.toList.take o ++ cs.toList ++ cur.toList.drop (o + m * sz)).toArray) := by
  have hst := run_storeCells_at P g o t cs.toList 0 cur w hg (by simpa [hsz] using hfit) h1
  simp only [Nat.add_zero, Array.length_toList, hsz] at hst
  simp only [Builtin.copy_, Sem.run_bind, run_underlying hu, Result.andThen_ok, Builtin.lenOf, Sem.run_pure, hm, run_sizeOf hs, Builtin.firstCells, hl, hst]
  simp [hu, run_underlying, hm, run_sizeOf hs, hl, hst]
theorem wpList_copyM {P : Program} (w : World) {ops : Array Oper} {rest : List Oper} {o : Oper} {a : Act} {Q : Exit → Act → World → Prop} (hgd : o.guard = none) (d s : Operand) (t t' : TypeId)
    (ho : o.op = .call { callee := .builtin .copy, args := #[d, s], argTypes := #[t, t'] }) (v u : Value) (hd : a.eval d = v) (hs : a.eval s = u) {v' : Value} {w' : World}
    (hr : (Builtin.copy_ #[t, t'] o.type #[v, u]).run P w = .ok v' w') (h : wpList P ops Q rest (a.put o.dst v') w') : wpList P ops Q (o :: rest) a w := by
  refine wpList_plain hgd fun _ hK => ?_
  unfold Oper.wp execOp
  simp only [ho, resolve, invoke, builtin, Sem.run_bind, Sem.run_pure, Result.andThen_ok, List.map_toArray, List.map_cons, List.map_nil, hd, hs, hr]
  exact hK _ _ h
theorem step_copyM {P : Program} {ops : Array Oper} {o : Oper} {a : Act} {w : World} {K : Act → World → Prop} {Q : Exit → Act → World → Prop} {E : Prop}
    (hg : o.guard = none) (d x : Operand) (dT sT : TypeId) (hop : o.op = Op.call { callee := Callee.builtin Builtin.copy, args := #[d, x], argTypes := #[dT, sT] })
    (v u : Value) (hd : a.eval d = v) (hx : a.eval x = u) {v' : Value} {w' : World} (hr : (Builtin.copy_ #[dT, sT] o.type #[v, u]).run P w = .ok v' w') (hK : K (a.put o.dst v') w') :
    if Region.wanted o (yielded ops a.tmps) = true then Oper.wp P o a w K Q else E := by
  have hw : Region.wanted o (yielded ops a.tmps) = true := by simp [Region.wanted, hg]
  rw [if_pos hw]
  unfold Oper.wp
  simp [execOp, hop, resolve, invoke, builtin, hd, hx, hr, Result.andThen]
  exact hK
end Go.Proofs.Ytcjlkbffmggekaa.E

namespace Go.Proofs.Ytcjlkbffmggekaa.E
open Go Go.RowKit Go.Lib
set_option maxHeartbeats 1000000
set_option maxRecDepth 100000
set_option linter.unusedSimpArgs false
set_option linter.unusedVariables false
/-- what a world keeps outside one block -/
structure Kept (g : Nat) (w w' : World) : Prop where
  same : ∀ j, j ≠ g → j < w.heap.size → w'.heap[j]? = w.heap[j]?
  size : w.heap.size ≤ w'.heap.size
  os : w'.os = w.os
  tape : w'.tape = w.tape
  output : w'.output = w.output
theorem Kept.drew {g : Nat} {w : World} : Kept g w w.drew := ⟨fun _ _ _ => rfl, Nat.le_refl _, rfl, rfl, rfl⟩
theorem Kept.row {g : Nat} {w w' : World} (h : Kept g w w') (cs : Array Value) : Kept g w (w'.setRow g cs) := ⟨fun j hj hl => by rw [setRow_other w' g j cs hj]; exact h.same j hj hl, by simpa using h.size, h.os, h.tape, h.output⟩
theorem Kept.draw {g : Nat} {w w' : World} (h : Kept g w w') : Kept g w w'.drew := ⟨h.same, h.size, h.os, h.tape, h.output⟩
/-- a part of a row, read -/
theorem load_part {P : Program} {w : World} {g o : Nat} {A B C : List Value} {t : TypeId} {fr : Nat × Nat} (hg : w.heap[g]? = some (.cells (A ++ B ++ C).toArray t fr)) (hA : A.length = o) {k : Nat} (hB : B.length = k) :
    (loadCells ⟨g, o, none⟩ k).run P w = .ok B.toArray w := by
  subst hB
  refine run_loadCells_list w _ B fun j v hj => ?_
  have hlt := (List.getElem?_eq_some_iff.1 hj).1
  rw [Addr.add_lit, cell_of_row w g _ _ t fr hg, List.getElem?_toArray, List.append_assoc, List.getElem?_append_right (by omega), List.getElem?_append_left (by omega), ← hj]
  congr 1
  omega
theorem ins_room {w : World} {g n c i vb vc : Nat} {A Q R X V : List Value} (hg : w.heap[g]? = some (.cells (A ++ Q ++ R).toArray 45 (0, 0))) (hA : A.length = i * 4) (hQ : Q.length = (n - i) * 4) (hR : R.length = (c - n) * 4) (hn : n < c) (hc : c ≤ 9223372036854775807) (hi : i < n)
    (hv : w.heap[vb]? = some (.cells (X ++ V).toArray 45 (0, 0))) (hX : X.length = 4) (hne : vb ≠ g) (hQ1 : ∀ u ∈ Q, u.oneCell' = true) (hX1 : ∀ u ∈ X, u.oneCell' = true) :
    Calls Try.prog 27 #[.slice (some ⟨g, 0, none⟩) n c, .int .i64 i, .slice (some ⟨vb, 0, none⟩) 1 vc] w fun e w' => e = .returned (.slice (some ⟨g, 0, none⟩) (n + 1) c) ∧ w'.heap[g]? = some (.cells (A ++ X ++ Q ++ R.drop 4).toArray 45 (0, 0)) ∧ Kept g w w' := by
  have t3 := Try.underlying3; have a3 := Try.isAgg3; have z3 := Try.sizeOf3; have v3 := Try.zeroValue3
  have t4 := Try.underlying4; have a4 := Try.isAgg4; have z4 := Try.sizeOf4; have v4 := Try.zeroValue4
  have t22 := Try.underlying22; have a22 := Try.isAgg22; have z22 := Try.sizeOf22; have v22 := Try.zeroValue22
  have t45 := Try.underlying45; have a45 := Try.isAgg45; have z45 := Try.sizeOf45; have v45 := Try.zeroValue45
  have u3 := run_underlying Try.underlying3; have u4 := run_underlying Try.underlying4; have u22 := run_underlying Try.underlying22
  have hsz : szT Try.prog 45 = some 4 := by kernel_rfl
  have hz2 : ¬ ((i : Int) = (n : Int)) := by omega
  have hov : ∀ o lb cb, (callFunc 34 #[.slice (some ⟨vb, 0, none⟩) 1 vc, .slice (some ⟨g, o, none⟩) lb cb]).run Try.prog w = .ok (.value (.bool false)) w := fun o lb cb => by
    rw [run_callFunc_extern Try.func34 (by kernel_rfl) (by kernel_rfl) (by kernel_rfl) (e := Extern.SlicesOverlaps.overlaps #[22, 22] #[4]) (by kernel_rfl),
      Lib.run_overlaps_apart w 22 4 45 Try.underlying22 4 Try.sizeOf45 ⟨vb, 0, none⟩ ⟨g, o, none⟩ 1 vc lb cb hne 45 45 (X ++ V).toArray.size (A ++ Q ++ R).toArray.size (by simp [World.shape?, hv]) (by simp [World.shape?, hg]) (by simp only [List.size_toArray, List.length_append]; omega) (by simp [World.frozen?, hv]) (by simp [World.frozen?, hv])]
    rfl
  have hin : i ≤ n := by omega
  have mixed : Try.prog.follows .mixedOrders = true := by kernel_rfl
  have hw1 : IntKind.i64.wrap ((i : Int) + 1) = (i : Int) + 1 := by rw [IntKind.wrap_i64]; omega
  have hb1 : (0 : Int) ≤ (i : Int) + 1 := by omega
  have htn : ((i : Int) + 1).toNat = i + 1 := by omega
  have hb2 : ¬ (c = i + 1) := by omega
  have hb3 : (i : Int) ≤ (n : Int) + 1 := by omega
  have hb4 : ¬ (c = i) := by omega
  obtain ⟨R5, D, hRD, hR5⟩ : ∃ R5 D, R = R5 ++ D ∧ R5.length = 4 := ⟨R.take 4, R.drop 4, by simp, by rw [List.length_take]; omega⟩
  obtain ⟨T, T', hT, hT5⟩ : ∃ T T', Q ++ R5 = T ++ T' ∧ T.length = 4 := ⟨(Q ++ R5).take 4, (Q ++ R5).drop 4, by simp, by rw [List.length_take, List.length_append]; omega⟩
  have hT' : T'.length = (n - i) * 4 := by
    have := congrArg List.length hT
    simp only [List.length_append] at this
    omega
  have hd5 : R.drop 4 = D := by rw [hRD, List.drop_left' hR5]
  have hcur : (A ++ Q ++ R) = A ++ T ++ T' ++ D := by rw [hRD, ← List.append_assoc, List.append_assoc A Q R5, hT, List.append_assoc A T T']
  have hg' : w.drew.heap[g]? = some (.cells (A ++ Q ++ R).toArray 45 (0, 0)) := hg
  have hcp1 : ∀ ty, (Builtin.copy_ #[22, 22] ty #[.slice (some ⟨g, (i + 1) * 4, none⟩) (n - i) (c - (i + 1)), .slice (some ⟨g, i * 4, none⟩) (n + 1 - i) (c - i)]).run Try.prog w.drew = .ok (goInt (n - i)) (w.drew.setRow g (A ++ T ++ Q ++ D).toArray) := fun ty => by
    have h := run_copyM (P := Try.prog) (w := w.drew) (dT := 22) (sT := 22) (ty := ty) Try.underlying22 hsz (g := g) (o := (i + 1) * 4) (dLen := n - i) (dCap := c - (i + 1)) hg' (A := ⟨g, i * 4, none⟩) (sLen := n + 1 - i) (sCap := c - i) (m := n - i) (by simp only [Nat.min_def]; split <;> omega) (load_part hg' hA hQ) (by simpa using hQ) (by simp; omega) (by simpa using hQ1)
    rw [h]
    have e1 : (A ++ T ++ T' ++ D).take ((i + 1) * 4) = A ++ T := by
      rw [List.append_assoc (A ++ T)]
      exact List.take_left' (by simp; omega)
    have e2 : (A ++ T ++ T' ++ D).drop ((i + 1) * 4 + (n - i) * 4) = D := List.drop_left' (by simp; omega)
    simp only [hcur, e1, e2]
    congr 1
    simp [goInt]
    omega
  have hg1 : (w.drew.setRow g (A ++ T ++ Q ++ D).toArray).heap[g]? = some (.cells (A ++ T ++ Q ++ D).toArray 45 (0, 0)) := setRow_heap w.drew g _ _ _ _ hg'
  have hv1 : (w.drew.setRow g (A ++ T ++ Q ++ D).toArray).heap[vb]? = some (.cells ([] ++ X ++ V).toArray 45 (0, 0)) := by
    rw [setRow_other _ g vb _ hne]
    exact hv
  have hcp2 : ∀ ty, (Builtin.copy_ #[22, 22] ty #[.slice (some ⟨g, i * 4, none⟩) (n + 1 - i) (c - i), .slice (some ⟨vb, 0, none⟩) 1 vc]).run Try.prog (w.drew.setRow g (A ++ T ++ Q ++ D).toArray) = .ok (goInt 1) ((w.drew.setRow g (A ++ T ++ Q ++ D).toArray).setRow g (A ++ X ++ Q ++ D).toArray) := fun ty => by
    have h := run_copyM (P := Try.prog) (w := w.drew.setRow g (A ++ T ++ Q ++ D).toArray) (dT := 22) (sT := 22) (ty := ty) Try.underlying22 hsz (g := g) (o := i * 4) (dLen := n + 1 - i) (dCap := c - i) hg1 (A := ⟨vb, 0, none⟩) (sLen := 1) (sCap := vc) (m := 1) (by simp only [Nat.min_def]; split <;> omega) (load_part hv1 rfl (by omega)) (by simp; omega) (by simp; omega) (by simpa using hX1)
    rw [h]
    have e1 : (A ++ T ++ Q ++ D).take (i * 4) = A := by
      rw [List.append_assoc, List.append_assoc]
      exact List.take_left' hA
    have e2 : (A ++ T ++ Q ++ D).drop (i * 4 + 1 * 4) = Q ++ D := by
      rw [List.append_assoc (A ++ T)]
      exact List.drop_left' (by simp; omega)
    simp only [e1, e2]
    simp only [List.append_assoc]
    rfl
  rw [hd5]
  have hg2 := setRow_heap _ g _ (A ++ X ++ Q ++ D).toArray _ _ hg1
  have hk2 : Kept g w ((w.drew.setRow g (A ++ T ++ Q ++ D).toArray).setRow g (A ++ X ++ Q ++ D).toArray) := (Kept.drew.row _).row _
  generalize hW2 : (w.drew.setRow g (A ++ T ++ Q ++ D).toArray).setRow g (A ++ X ++ Q ++ D).toArray = W2 at hcp2 hg2 hk2
  generalize hW1 : w.drew.setRow g (A ++ T ++ Q ++ D).toArray = W1 at hcp1 hcp2
  clear hW1 hW2
  go_enter Try.func27, Try.ntmps27
  go_wp2_with (simp only [hov])
  go_region_law_o (refine step_copyM rfl _ _ 22 22 rfl _ _ (by simp [Act.eval, Act.put]) (by simp [Act.eval, Act.put]) (hcp1 _) ?_)
  go_wp2_with (at_builtin; refine wpList_copyM _ rfl _ _ 22 22 rfl _ _ rfl rfl (hcp2 _) ?_)
  go_ret
  exact ⟨rfl, hg2, hk2⟩
end Go.Proofs.Ytcjlkbffmggekaa.E

namespace Go.Proofs.Ytcjlkbffmggekaa.E
open Go Go.RowKit Go.Lib
set_option maxHeartbeats 1000000
set_option maxRecDepth 100000
set_option linter.unusedSimpArgs false
set_option linter.unusedVariables false
theorem wpList_appM {P : Program} (w : World) {ops : Array Oper} {rest : List Oper} {o : Oper} {a : Act} {Q : Exit → Act → World → Prop} (hgd : o.guard = none) (d s : Operand) (t t' ty : TypeId) (hty : o.type = ty)
    (ho : o.op = .call { callee := .builtin .append, args := #[d, s], argTypes := #[t, t'] }) (v u : Value) (hd : a.eval d = v) (hs : a.eval s = u) {v' : Value} {w' : World}
    (hr : (Builtin.append_ #[t, t'] ty #[v, u]).run P w = .ok v' w') (h : wpList P ops Q rest (a.put o.dst v') w') : wpList P ops Q (o :: rest) a w := by
  refine wpList_plain hgd fun _ hK => ?_
  unfold Oper.wp execOp
  simp only [ho, hty, resolve, invoke, builtin, Sem.run_bind, Sem.run_pure, Result.andThen_ok, List.map_toArray, List.map_cons, List.map_nil, hd, hs, hr]
  exact hK _ _ h
theorem ins_end {w w' : World} {A : Option Addr} {n c vb vc : Nat} {v' : Value} (hA : A = none → c = 0) (hnc : n ≤ c) (hc : c ≤ 9223372036854775807)
    (happ : (Builtin.append_ #[22, 22] 22 #[.slice A n c, .slice (some ⟨vb, 0, none⟩) 1 vc]).run Try.prog w = .ok v' w') :
    Calls Try.prog 27 #[.slice A n c, .int .i64 n, .slice (some ⟨vb, 0, none⟩) 1 vc] w fun e w'' => e = .returned v' ∧ w'' = w' := by
  have t3 := Try.underlying3; have a3 := Try.isAgg3; have z3 := Try.sizeOf3; have v3 := Try.zeroValue3
  have t4 := Try.underlying4; have a4 := Try.isAgg4; have z4 := Try.sizeOf4; have v4 := Try.zeroValue4
  have t22 := Try.underlying22; have a22 := Try.isAgg22; have z22 := Try.sizeOf22; have v22 := Try.zeroValue22
  have t45 := Try.underlying45; have a45 := Try.isAgg45; have z45 := Try.sizeOf45; have v45 := Try.zeroValue45
  have u3 := run_underlying Try.underlying3; have u4 := run_underlying Try.underlying4; have u22 := run_underlying Try.underlying22
  cases A with
  | none =>
    obtain rfl := hA rfl
    obtain rfl : n = 0 := by omega
    go_enter Try.func27, Try.ntmps27
    go_wp2_with (at_builtin; refine wpList_appM _ rfl _ _ 22 22 22 rfl rfl _ _ rfl rfl happ ?_)
    go_ret
    exact ⟨rfl, rfl⟩
  | some a =>
    go_enter Try.func27, Try.ntmps27
    go_wp2_with (at_builtin; refine wpList_appM _ rfl _ _ 22 22 22 rfl rfl _ _ rfl rfl happ ?_)
    all_goals go_ret
    all_goals exact ⟨rfl, rfl⟩
theorem ins_grow {w : World} {g n i vb vc : Nat} {A Q X V : List Value} (hg : w.heap[g]? = some (.cells (A ++ Q).toArray 45 (0, 0))) (hA : A.length = i * 4) (hQ : Q.length = (n - i) * 4) (hn : n ≤ 1000) (hi : i < n)
    (hv : w.heap[vb]? = some (.cells (X ++ V).toArray 45 (0, 0))) (hX : X.length = 4) (hQ1 : ∀ u ∈ Q, u.oneCell' = true) (hX1 : ∀ u ∈ X, u.oneCell' = true) :
    Calls Try.prog 27 #[.slice (some ⟨g, 0, none⟩) n n, .int .i64 i, .slice (some ⟨vb, 0, none⟩) 1 vc] w fun e w' => ∃ G Z, e = .returned (.slice (some ⟨w.heap.size, 0, none⟩) (n + 1) G) ∧ n + 1 ≤ G ∧ G ≤ maxLen ∧ Z.length = (G - (n + 1)) * 4 ∧
      w'.heap[w.heap.size]? = some (.cells (A ++ X ++ Q ++ Z).toArray 45 (0, 0)) ∧ Kept w.heap.size w w' := by
  have t3 := Try.underlying3; have a3 := Try.isAgg3; have z3 := Try.sizeOf3; have v3 := Try.zeroValue3
  have t4 := Try.underlying4; have a4 := Try.isAgg4; have z4 := Try.sizeOf4; have v4 := Try.zeroValue4
  have t22 := Try.underlying22; have a22 := Try.isAgg22; have z22 := Try.sizeOf22; have v22 := Try.zeroValue22
  have t45 := Try.underlying45; have a45 := Try.isAgg45; have z45 := Try.sizeOf45; have v45 := Try.zeroValue45
  have u3 := run_underlying Try.underlying3; have u4 := run_underlying Try.underlying4; have u22 := run_underlying Try.underlying22
  have hsz : szT Try.prog 45 = some 4 := by kernel_rfl
  have hz2 : ¬ ((i : Int) = (n : Int)) := by omega
  have mixed : Try.prog.follows .mixedOrders = true := by kernel_rfl
  obtain ⟨i0, hi0, hz0, hzs, hzb⟩ := info_parts (show (Try.prog.info? 45).map (fun i => (i.zero, i.size, i.bytes)) = some (some (.agg #[.string ⟨#[]⟩, .string ⟨#[]⟩, .int .i64 0, .int .i64 0]), 4, 48) by kernel_rfl)
  have hgd : w.drew.heap[g]? = some (.cells ([] ++ A ++ Q).toArray 45 (0, 0)) := hg
  have hold : (Builtin.firstCells i0.size i (.slice (some ⟨g, 0, none⟩) i n)).run Try.prog w.drew = .ok A.toArray w.drew := by
    rw [hzs]
    exact load_part hgd rfl hA
  have hgw : g < w.heap.size := (Array.getElem?_eq_some_iff.1 hg).1
  have hvw : vb < w.heap.size := (Array.getElem?_eq_some_iff.1 hv).1
  have hG1 := grownCap_ge w (n + 1) n 45
  have hG2 := grownCap_le_maxLen w (n + 1) n 45 (by simp only [maxLen]; omega)
  have hik : i + (n + 1 - i) = n + 1 := by omega
  have hrz : ∀ ty, (Builtin.append_ #[22, 3] ty #[.slice (some ⟨g, 0, none⟩) i n, .int .i64 ((n : Int) + 1 - (i : Int))]).run Try.prog w =
      .ok (.slice (some ⟨w.heap.size, 0, none⟩) (n + 1) (grownCap w (n + 1) n 45)) (w.drew.alloc (.cells (A.toArray ++ Builtin.zeroCells #[.string ⟨#[]⟩, .string ⟨#[]⟩, .int .i64 0, .int .i64 0] (n + 1 - i) ++ Builtin.zeroCells #[.string ⟨#[]⟩, .string ⟨#[]⟩, .int .i64 0, .int .i64 0] (grownCap w (n + 1) n 45 - (n + 1))) 45)) := fun ty => by
    have h := Lib.run_append_grow_zeros w 22 3 ty 45 i0 _ .i64 .i64 Try.underlying22 Try.underlying3 hi0 hz0 (some ⟨g, 0, none⟩) i n A hold (n + 1 - i) (by omega) (by omega) (by omega) (by omega) (by rw [hzb]; omega) (by rw [hzb, hik]; exact growslice_fits (by omega) (by omega))
    rw [hik] at h
    have hk : (n : Int) + 1 - (i : Int) = ((n + 1 - i : Nat) : Int) := by omega
    rw [hk]
    exact h
  generalize hGG : grownCap w (n + 1) n 45 = G at *
  obtain ⟨Z1, hZ1, hZ1l⟩ : ∃ Z1 : List Value, Builtin.zeroCells #[.string ⟨#[]⟩, .string ⟨#[]⟩, .int .i64 0, .int .i64 0] (n + 1 - i) = Z1.toArray ∧ Z1.length = (n + 1 - i) * 4 := ⟨(Builtin.zeroCells #[.string ⟨#[]⟩, .string ⟨#[]⟩, .int .i64 0, .int .i64 0] (n + 1 - i)).toList, by simp, by simp [size_zeroCells]⟩
  obtain ⟨Z, hZ, hZl⟩ : ∃ Z : List Value, Builtin.zeroCells #[.string ⟨#[]⟩, .string ⟨#[]⟩, .int .i64 0, .int .i64 0] (G - (n + 1)) = Z.toArray ∧ Z.length = (G - (n + 1)) * 4 := ⟨(Builtin.zeroCells #[.string ⟨#[]⟩, .string ⟨#[]⟩, .int .i64 0, .int .i64 0] (G - (n + 1))).toList, by simp, by simp [size_zeroCells]⟩
  rw [hZ1, hZ, List.append_toArray, List.append_toArray] at hrz
  obtain ⟨Z5, Y, hZ5, hZ5l⟩ : ∃ Z5 Y, Z1 = Z5 ++ Y ∧ Z5.length = 4 := ⟨Z1.take 4, Z1.drop 4, by simp, by rw [List.length_take]; omega⟩
  have hYl : Y.length = (n - i) * 4 := by
    have := congrArg List.length hZ5
    simp only [List.length_append] at this
    omega
  have hW1 : (w.drew.alloc (.cells (A ++ Z1 ++ Z).toArray 45)).heap[w.heap.size]? = some (.cells (A ++ Z1 ++ Z).toArray 45 (0, 0)) := heap_alloc_new w.drew _
  have hold1 : ∀ j, j < w.heap.size → (w.drew.alloc (.cells (A ++ Z1 ++ Z).toArray 45)).heap[j]? = w.heap[j]? := fun j hj => heap_alloc_old w.drew _ hj
  have hk1 : Kept w.heap.size w (w.drew.alloc (.cells (A ++ Z1 ++ Z).toArray 45)) := ⟨fun j _ hj => hold1 j hj, by simp, rfl, rfl, rfl⟩
  generalize w.drew.alloc (.cells (A ++ Z1 ++ Z).toArray 45) = W1 at hrz hW1 hold1 hk1
  have hv1 : W1.heap[vb]? = some (.cells ([] ++ X ++ V).toArray 45 (0, 0)) := by rw [hold1 vb hvw]; exact hv
  have hcp1 : ∀ ty, (Builtin.copy_ #[22, 22] ty #[.slice (some ⟨w.heap.size, i * 4, none⟩) (n + 1 - i) (G - i), .slice (some ⟨vb, 0, none⟩) 1 vc]).run Try.prog W1 = .ok (goInt 1) (W1.setRow w.heap.size (A ++ X ++ Y ++ Z).toArray) := fun ty => by
    have h := run_copyM (P := Try.prog) (w := W1) (dT := 22) (sT := 22) (ty := ty) Try.underlying22 hsz (g := w.heap.size) (o := i * 4) (dLen := n + 1 - i) (dCap := G - i) hW1 (A := ⟨vb, 0, none⟩) (sLen := 1) (sCap := vc) (m := 1) (by simp only [Nat.min_def]; split <;> omega) (load_part hv1 rfl (by omega)) (by simp; omega) (by simp; omega) (by simpa using hX1)
    rw [h]
    have e1 : (A ++ Z1 ++ Z).take (i * 4) = A := by
      rw [List.append_assoc]
      exact List.take_left' hA
    have e2 : (A ++ Z1 ++ Z).drop (i * 4 + 1 * 4) = Y ++ Z := by
      rw [hZ5, ← List.append_assoc, List.append_assoc (A ++ Z5)]
      exact List.drop_left' (by simp; omega)
    simp only [e1, e2]
    simp only [List.append_assoc]
    rfl
  have hW2 : (W1.setRow w.heap.size (A ++ X ++ Y ++ Z).toArray).drew.heap[w.heap.size]? = some (.cells (A ++ X ++ Y ++ Z).toArray 45 (0, 0)) := setRow_heap W1 _ _ _ _ _ hW1
  have hg2 : (W1.setRow w.heap.size (A ++ X ++ Y ++ Z).toArray).drew.heap[g]? = some (.cells (A ++ Q ++ []).toArray 45 (0, 0)) := by
    have : (W1.setRow w.heap.size (A ++ X ++ Y ++ Z).toArray).heap[g]? = some (.cells (A ++ Q ++ []).toArray 45 (0, 0)) := by
      rw [setRow_other _ _ g _ (by omega), hold1 g hgw, List.append_nil]
      exact hg
    exact this
  have hk2 := hk1.row (A ++ X ++ Y ++ Z).toArray
  generalize W1.setRow w.heap.size (A ++ X ++ Y ++ Z).toArray = W2 at hcp1 hW2 hg2 hk2
  have hcp2 : ∀ ty, (Builtin.copy_ #[22, 22] ty #[.slice (some ⟨w.heap.size, (i + 1) * 4, none⟩) (n + 1 - (i + 1)) (G - (i + 1)), .slice (some ⟨g, i * 4, none⟩) (n - i) (n - i)]).run Try.prog W2.drew = .ok (goInt (n - i)) (W2.drew.setRow w.heap.size (A ++ X ++ Q ++ Z).toArray) := fun ty => by
    have h := run_copyM (P := Try.prog) (w := W2.drew) (dT := 22) (sT := 22) (ty := ty) Try.underlying22 hsz (g := w.heap.size) (o := (i + 1) * 4) (dLen := n + 1 - (i + 1)) (dCap := G - (i + 1)) hW2 (A := ⟨g, i * 4, none⟩) (sLen := n - i) (sCap := n - i) (m := n - i) (by simp only [Nat.min_def]; split <;> omega) (load_part hg2 hA hQ) (by simpa using hQ) (by simp; omega) (by simpa using hQ1)
    rw [h]
    have e1 : (A ++ X ++ Y ++ Z).take ((i + 1) * 4) = A ++ X := by
      rw [List.append_assoc (A ++ X)]
      exact List.take_left' (by simp; omega)
    have e2 : (A ++ X ++ Y ++ Z).drop ((i + 1) * 4 + (n - i) * 4) = Z := List.drop_left' (by simp; omega)
    simp only [e1, e2]
    congr 1
    simp [goInt]
    omega
  have hW3 := setRow_heap W2.drew _ _ (A ++ X ++ Q ++ Z).toArray _ _ hW2
  have hk3 := hk2.draw.row (A ++ X ++ Q ++ Z).toArray
  generalize W2.drew.setRow w.heap.size (A ++ X ++ Q ++ Z).toArray = W3 at hcp2 hW3 hk3
  clear hW1 hold1 hk1 hv1 hW2 hg2 hk2 hgd hold hGG
  have hw1 : IntKind.i64.wrap ((i : Int) + 1) = (i : Int) + 1 := by rw [IntKind.wrap_i64]; omega
  have hw2 : IntKind.i64.wrap ((n : Int) + 1 - i) = (n : Int) + 1 - i := by rw [IntKind.wrap_i64]; omega
  have hb1 : (0 : Int) ≤ (i : Int) + 1 := by omega
  have htn : ((i : Int) + 1).toNat = i + 1 := by omega
  have hb2 : ¬ (G = i + 1) := by omega
  have hb3 : (i : Int) ≤ (n : Int) + 1 := by omega
  have hb4 : ¬ (G = i) := by omega
  have hb5 : ¬ (n = i) := by omega
  have hin : i ≤ n := by omega
  go_enter Try.func27, Try.ntmps27
  go_wp2_with (first | (at_builtin; refine wpList_appM _ rfl _ _ 22 3 22 rfl rfl _ _ rfl rfl (hrz 22) ?_) | (at_builtin; refine wpList_copyM _ rfl _ _ 22 22 rfl _ _ rfl rfl (hcp1 _) ?_))
  go_region_law_o (refine step_copyM rfl _ _ 22 22 rfl _ _ (by simp [Act.eval, Act.put]) (by simp [Act.eval, Act.put]) (hcp2 _) ?_)
  go_wp2
  go_ret
  exact ⟨G, Z, rfl, hG1, hG2, hZl, hW3, hk3⟩
end Go.Proofs.Ytcjlkbffmggekaa.E

namespace Go.Proofs.Ytcjlkbffmggekaa.E
open Go Go.RowKit Go.Lib
set_option maxHeartbeats 1000000
set_option maxRecDepth 100000
set_option linter.unusedSimpArgs false
set_option linter.unusedVariables false
theorem All2.take' {α β : Type} {R : α → β → Prop} {a : List α} {b c : List β} {n : Nat} (h : All2 R a (b ++ c)) (hb : b.length = n) : All2 R (a.take n) b := by
  have := h.take n
  rwa [List.take_left' hb] at this
theorem flat_takeI {sz : Nat} : ∀ (xs : List (List DV)) (i : Nat), (∀ x ∈ xs, x.length = sz) → (xs.take i).flatten = xs.flatten.take (i * sz) ∧ (xs.drop i).flatten = xs.flatten.drop (i * sz)
  | xs, 0, _ => by simp
  | [], i + 1, _ => by simp
  | x :: xs, i + 1, h => by
    have hx : x.length = sz := h x (by simp)
    obtain ⟨h1, h2⟩ := flat_takeI xs i fun y hy => h y (by simp [hy])
    have e : (i + 1) * sz = x.length + i * sz := by rw [hx, Nat.add_mul, Nat.one_mul, Nat.add_comm]
    refine ⟨?_, ?_⟩
    · rw [List.take_succ_cons, List.flatten_cons, List.flatten_cons, h1, e, List.take_length_add_append]
    · rw [List.drop_succ_cons, List.flatten_cons, h2, e, List.drop_length_add_append]
theorem spec27 (xs : List (List DV)) (x : List DV) (i : Nat) (hi : i ≤ xs.length) (hb : xs.length ≤ 1000) : Spec Try.prog 27 [.own 45 4 xs, .fz (.int .i64 i), .own 45 4 [x]] (.own 45 4 (xs.take i ++ x :: xs.drop i)) := by
  refine ⟨by kernel_rfl, fun F w vs hfwf hargs hdis => ?_⟩
  obtain ⟨v0, r0, e0, hv0, hargs⟩ := hargs
  obtain ⟨v1, r1, e1, hv1, hargs⟩ := hargs
  obtain ⟨v2, r2, e2, hv2, hargs⟩ := hargs
  have hr2 : r2 = [] := hargs
  subst hr2 e2 e1
  have hvs : vs = #[v0, v1, v2] := by
    apply Array.ext'
    rw [e0]
  subst hvs
  clear e0
  have hv0 : VecOK F w (fun _ => True) 45 4 xs v0 := hv0
  have hv2 : VecOK F w (fun _ => True) 45 4 [x] v2 := hv2
  have hv1 : RF F w (.int .i64 i) v1 := hv1
  rw [RF] at hv1
  subst hv1
  have hown0 : ∀ b, hblk v0 = some b → ownB [.own 45 4 xs, .fz (.int .i64 i), .own 45 4 [x]] #[v0, .int .i64 i, v2].toList b := fun b hb => ⟨0, 45, 4, xs, v0, rfl, rfl, hb⟩
  have hN : ∀ b, w.heap.size ≤ b → Nw (ownB [.own 45 4 xs, .fz (.int .i64 i), .own 45 4 [x]] #[v0, .int .i64 i, v2].toList) w b := fun b hb => .inl hb
  have hv0' : VecOK F w (Nw (ownB [.own 45 4 xs, .fz (.int .i64 i), .own 45 4 [x]] #[v0, .int .i64 i, v2].toList) w) 45 4 xs v0 := hv0.strong fun b hb => .inr (hown0 b hb)
  obtain ⟨hx5, hv2'⟩ := hv2
  have hx5 : x.length = 4 := hx5 x (by simp)
  rcases hv2' with ⟨h, _⟩ | ⟨vb, vc, vcur, rfl, hvc, _, hvF, hvh, _, _, hvs, hv1c, hvall⟩
  · cases h
  simp only [List.length_singleton, Nat.one_mul, List.flatten_cons, List.flatten_nil, List.append_nil] at hv1c hvall hvh
  have hvl : vcur.toList.length = vc * 4 := by simpa using hvs
  have hX5 : (vcur.toList.take 4).length = 4 := by rw [List.length_take]; omega
  have hvh' : w.heap[vb]? = some (.cells (vcur.toList.take 4 ++ vcur.toList.drop 4).toArray 45 (0, 0)) := by
    rw [List.take_append_drop]
    simpa using hvh
  -- what a world that keeps all but one block says
  have grow : ∀ (b : Nat) (w' : World), (b < w.heap.size → hblk v0 = some b) → Kept b w w' → Grow (ownB [.own 45 4 xs, .fz (.int .i64 i), .own 45 4 [x]] #[v0, .int .i64 i, .slice (some ⟨vb, 0, none⟩) 1 vc].toList) F w F w' := by
    intro b w' hb hk
    refine ⟨fun _ _ h => h, fun _ _ h => .inl h, fun c o h => Nat.lt_of_lt_of_le (hfwf c o h) hk.size, hk.size, fun c hc hO => ?_, hk.os, hk.tape, hk.output⟩
    by_cases hcb : c = b
    · subst hcb
      exact absurd (hown0 c (hb hc)) hO
    · exact hk.same c hcb hc
  by_cases hin : i = xs.length
  · subst hin
    obtain ⟨A, c, hA, hnc, hcm, hAn⟩ : ∃ A c, v0 = .slice A xs.length c ∧ xs.length ≤ c ∧ c ≤ 9223372036854775807 ∧ (A = none → c = 0) := by
      rcases hv0.2 with ⟨h, A, rfl⟩ | ⟨g, cap, cur, rfl, h0, _, _, _, h1, h2, _⟩
      · subst h
        exact ⟨A, 0, rfl, Nat.le_refl _, by omega, fun _ => rfl⟩
      · exact ⟨_, cap, rfl, h1, by simpa [maxLen] using h2, fun h => by cases h⟩
    obtain ⟨i0, hi0, hz0, hzs, hzb⟩ := info_parts (show (Try.prog.info? 45).map (fun i => (i.zero, i.size, i.bytes)) = some (some (.agg #[.string ⟨#[]⟩, .string ⟨#[]⟩, .int .i64 0, .int .i64 0]), 4, 48) by kernel_rfl)
    have hsrc : SrcOK F w i0.size [x] (some ⟨vb, 0, none⟩) := by
      refine ⟨by intro y hy; rw [hzs]; simp at hy; subst hy; exact hx5, .inr ⟨vb, 0, vcur.toList.take 4, rfl, ?_, hv1c, by simpa using hvall⟩⟩
      intro j u hj
      rw [cell_of_row w vb _ _ _ _ hvh, Nat.zero_add]
      rw [List.getElem?_take] at hj
      split at hj
      · simpa using hj
      · cases hj
    obtain ⟨v', w', hr, g1, g2, g3, g4, g5, g6, g7⟩ := append_ok (P := Try.prog) (F := F) hN hfwf (t := 22) (ty := 22) (e := 45) Try.underlying22 hi0 hz0 (by rw [hzs]; rfl) (by omega) (xs := xs) (ys := [x]) (v := v0) (by rw [hzs]; exact hv0') (B := some ⟨vb, 0, none⟩) (c := vc) hsrc (by simp [maxLen]; omega) (by rw [hzb]; simp; omega)
    rw [hA] at hr
    have hcalls := ins_end (w := w) (A := A) (n := xs.length) (c := c) (vb := vb) (vc := vc) hAn hnc hcm hr
    rw [hA]
    refine hcalls.mono ?_
    rintro e w'' ⟨rfl, rfl⟩
    rw [← hA]
    refine ⟨v', F, rfl, ⟨fun _ _ h => h, fun _ _ h => .inl h, fun c o h => Nat.lt_of_lt_of_le (hfwf c o h) g3, g3, fun c hc hO => ?_, g4, g5, g6⟩, ?_⟩
    · exact g2 c (fun h => hO (hown0 c h)) hc
    · show VecOK F w'' _ 45 4 _ v'
      rw [hzs] at g1
      simpa using g1
  · have hlt : i < xs.length := by omega
    rcases hv0'.2 with ⟨h, _⟩ | ⟨g, c, cur, rfl, hc0, hNg, hF, hgh, hnc, hcm, hcs, h1c, hall⟩
    · subst h
      simp at hlt
    have hne : vb ≠ g := by
      intro h
      subst h
      have := hdis 0 2 45 4 xs 45 4 [x] (.slice (some ⟨vb, 0, none⟩) xs.length c) (.slice (some ⟨vb, 0, none⟩) 1 vc) vb rfl rfl rfl rfl (by simp only [hblk, if_neg (Nat.pos_iff_ne_zero.1 hc0)]) (by simp only [hblk, if_neg (Nat.pos_iff_ne_zero.1 hvc)])
      omega
    have hcl : cur.toList.length = c * 4 := by simpa using hcs
    have hm5 : i * 4 ≤ xs.length * 4 := by omega
    have hcm5 : xs.length * 4 ≤ c * 4 := by omega
    have hAl : (cur.toList.take (i * 4)).length = i * 4 := by rw [List.length_take]; omega
    have hQl : ((cur.toList.drop (i * 4)).take ((xs.length - i) * 4)).length = (xs.length - i) * 4 := by rw [List.length_take, List.length_drop]; omega
    have hcur : cur.toList.take (i * 4) ++ (cur.toList.drop (i * 4)).take ((xs.length - i) * 4) ++ cur.toList.drop (xs.length * 4) = cur.toList := by
      have e : xs.length * 4 = i * 4 + (xs.length - i) * 4 := by omega
      rw [e, List.append_assoc, ← List.drop_drop, List.take_append_drop, List.take_append_drop]
    have htk : cur.toList.take (xs.length * 4) = cur.toList.take (i * 4) ++ (cur.toList.drop (i * 4)).take ((xs.length - i) * 4) := by
      have e : xs.length * 4 = i * 4 + (xs.length - i) * 4 := by omega
      rw [e, List.take_add]
    rw [htk] at h1c hall
    generalize hAA : cur.toList.take (i * 4) = A at *
    generalize hQQ : (cur.toList.drop (i * 4)).take ((xs.length - i) * 4) = Q at *
    generalize hRR : cur.toList.drop (xs.length * 4) = R at *
    have hRl : R.length = (c - xs.length) * 4 := by rw [← hRR, List.length_drop]; omega
    have hgh' : w.heap[g]? = some (.cells (A ++ Q ++ R).toArray 45 (0, 0)) := by
      rw [hcur]
      simpa using hgh
    have hQ1 : ∀ u ∈ Q, u.oneCell' = true := fun u hu => h1c u (by simp [hu])
    have hA1 : ∀ u ∈ A, u.oneCell' = true := fun u hu => h1c u (by simp [hu])
    have hft := flat_takeI xs i (sz := 4) hv0.1
    have hallA : All2 (RF F w) (xs.take i).flatten A := by
      rw [hft.1]
      exact hall.take' hAl
    have hallQ : All2 (RF F w) (xs.drop i).flatten Q := by
      rw [hft.2]
      have := hall.drop (i * 4)
      rwa [List.drop_left' hAl] at this
    have hlen : (xs.take i ++ x :: xs.drop i).length = xs.length + 1 := by
      simp only [List.length_append, List.length_take, List.length_cons, List.length_drop]
      omega
    have hrow : ∀ y ∈ xs.take i ++ x :: xs.drop i, y.length = 4 := by
      intro y hy
      rcases List.mem_append.1 hy with h | h
      · exact hv0.1 y (List.mem_of_mem_take h)
      · rcases List.mem_cons.1 h with h | h
        · rw [h]; exact hx5
        · exact hv0.1 y (List.mem_of_mem_drop h)
    -- the new row reads as the list
    have reads : ∀ (w' : World) (b : Nat) (S : List Value), Kept b w w' → (b < w.heap.size → b = g) → (A ++ vcur.toList.take 4 ++ Q ++ S).length = (A ++ vcur.toList.take 4 ++ Q ++ S).length →
        (∀ u ∈ (A ++ vcur.toList.take 4 ++ Q ++ S).take ((xs.take i ++ x :: xs.drop i).length * 4), u.oneCell' = true) ∧ All2 (RF F w') (xs.take i ++ x :: xs.drop i).flatten ((A ++ vcur.toList.take 4 ++ Q ++ S).take ((xs.take i ++ x :: xs.drop i).length * 4)) := by
      intro w' b S hk hbg _
      have hkp : Keeps F w F w' := ⟨fun _ _ h => h, fun c o hb => by
        refine cell_of_block (hk.same c ?_ (hfwf c o hb)) o
        intro h
        subst h
        rw [hbg (hfwf c o hb)] at hb
        exact hF o hb⟩
      have et : (A ++ vcur.toList.take 4 ++ Q ++ S).take ((xs.take i ++ x :: xs.drop i).length * 4) = A ++ vcur.toList.take 4 ++ Q := by
        rw [hlen]
        exact List.take_left' (by simp only [List.length_append]; omega)
      rw [et]
      refine ⟨?_, ?_⟩
      · intro u hu
        simp only [List.mem_append] at hu
        rcases hu with (hu | hu) | hu
        · exact hA1 u hu
        · exact hv1c u hu
        · exact hQ1 u hu
      · rw [List.flatten_append, List.flatten_cons, List.append_assoc]
        exact ((hallA.append (hvall.append hallQ)).mono fun _ _ => RF.mono hkp _ _)
    by_cases hroom : xs.length < c
    · refine (ins_room (n := xs.length) hgh' hAl hQl hRl hroom (by simpa [maxLen] using hcm) hlt hvh' hX5 hne hQ1 hv1c).mono ?_
      rintro e w' ⟨rfl, g1, g2⟩
      have hgw : g < w.heap.size := (Array.getElem?_eq_some_iff.1 hgh).1
      refine ⟨_, F, rfl, grow g w' (fun _ => by simp only [hblk, if_neg (Nat.pos_iff_ne_zero.1 hc0)]) g2, ?_⟩
      have hrd := reads w' g (R.drop 4) g2 (fun _ => rfl) rfl
      refine ⟨hrow, .inr ⟨g, c, _, by rw [hlen], hc0, hNg, hF, g1, by omega, hcm, ?_, hrd.1, hrd.2⟩⟩
      simp only [List.size_toArray, List.length_append, List.length_drop, List.length_take]
      omega
    · obtain rfl : c = xs.length := by omega
      have hR0 : R = [] := List.eq_nil_of_length_eq_zero (by omega)
      rw [hR0, List.append_nil] at hgh'
      refine (ins_grow (n := xs.length) hgh' hAl hQl hb hlt hvh' hX5 hQ1 hv1c).mono ?_
      rintro e w' ⟨G, Z, rfl, hG1, hG2, hZl, g1, g2⟩
      refine ⟨_, F, rfl, grow w.heap.size w' (fun h => absurd h (Nat.lt_irrefl _)) g2, ?_⟩
      have hrd := reads w' w.heap.size Z g2 (fun h => absurd h (Nat.lt_irrefl _)) rfl
      refine ⟨hrow, .inr ⟨w.heap.size, G, _, by rw [hlen], by omega, .inl (Nat.le_refl _), fun o ho => Nat.lt_irrefl _ (hfwf _ o ho), g1, by omega, hG2, ?_, hrd.1, hrd.2⟩⟩
      simp only [List.size_toArray, List.length_append]
      omega
end Go.Proofs.Ytcjlkbffmggekaa.E
