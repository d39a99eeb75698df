/-
  Ins4: walks of functions of the program at data level.
-/
import Derived.Test.YtklbfafdioeehaaIns3
set_option linter.unusedVariables false
set_option linter.unusedSimpArgs false
namespace Go.Proofs.Ytklbfafdioeehaa.E
open Go Go.RowKit Go.Lib
set_option maxHeartbeats 1000000
set_option maxRecDepth 100000
set_option linter.unusedSimpArgs false
set_option linter.unusedVariables false
theorem All2.take' {α β : Type} {R : α → β → Prop} {a : List α} {b c : List β} {n : Nat} (h : All2 R a (b ++ c)) (hb : b.length = n) : All2 R (a.take n) b := by
  have := h.take n
  rwa [List.take_left' hb] at this
theorem flat_takeI {sz : Nat} : ∀ (xs : List (List DV)) (i : Nat), (∀ x ∈ xs, x.length = sz) → (xs.take i).flatten = xs.flatten.take (i * sz) ∧ (xs.drop i).flatten = xs.flatten.drop (i * sz)
  | xs, 0, _ => by simp
  | [], i + 1, _ => by simp
  | x :: xs, i + 1, h => by
    have hx : x.length = sz := h x (by simp)
    obtain ⟨h1, h2⟩ := flat_takeI xs i fun y hy => h y (by simp [hy])
    have e : (i + 1) * sz = x.length + i * sz := by rw [hx, Nat.add_mul, Nat.one_mul, Nat.add_comm]
    refine ⟨?_, ?_⟩
    · rw [List.take_succ_cons, List.flatten_cons, List.flatten_cons, h1, e, List.take_length_add_append]
    · rw [List.drop_succ_cons, List.flatten_cons, h2, e, List.drop_length_add_append]
theorem spec31 (xs : List (List DV)) (x : List DV) (i : Nat) (hi : i ≤ xs.length) (hb : xs.length ≤ 1000) : Spec Try.prog 31 [.own 49 2 xs, .fz (.int .i64 i), .own 49 2 [x]] (.own 49 2 (xs.take i ++ x :: xs.drop i)) := by
  refine ⟨by kernel_rfl, fun F w vs hfwf hargs hdis => ?_⟩
  obtain ⟨v0, r0, e0, hv0, hargs⟩ := hargs
  obtain ⟨v1, r1, e1, hv1, hargs⟩ := hargs
  obtain ⟨v2, r2, e2, hv2, hargs⟩ := hargs
  have hr2 : r2 = [] := hargs
  subst hr2 e2 e1
  have hvs : vs = #[v0, v1, v2] := by
    apply Array.ext'
    rw [e0]
  subst hvs
  clear e0
  have hv0 : VecOK F w (fun _ => True) 49 2 xs v0 := hv0
  have hv2 : VecOK F w (fun _ => True) 49 2 [x] v2 := hv2
  have hv1 : RF F w (.int .i64 i) v1 := hv1
  rw [RF] at hv1
  subst hv1
  have hown0 : ∀ b, hblk v0 = some b → ownB [.own 49 2 xs, .fz (.int .i64 i), .own 49 2 [x]] #[v0, .int .i64 i, v2].toList b := fun b hb => ⟨0, 49, 2, xs, v0, rfl, rfl, hb⟩
  have hN : ∀ b, w.heap.size ≤ b → Nw (ownB [.own 49 2 xs, .fz (.int .i64 i), .own 49 2 [x]] #[v0, .int .i64 i, v2].toList) w b := fun b hb => .inl hb
  have hv0' : VecOK F w (Nw (ownB [.own 49 2 xs, .fz (.int .i64 i), .own 49 2 [x]] #[v0, .int .i64 i, v2].toList) w) 49 2 xs v0 := hv0.strong fun b hb => .inr (hown0 b hb)
  obtain ⟨hx5, hv2'⟩ := hv2
  have hx5 : x.length = 2 := hx5 x (by simp)
  rcases hv2' with ⟨h, _⟩ | ⟨vb, vc, vcur, rfl, hvc, _, hvF, hvh, _, _, hvs, hv1c, hvall⟩
  · cases h
  simp only [List.length_singleton, Nat.one_mul, List.flatten_cons, List.flatten_nil, List.append_nil] at hv1c hvall hvh
  have hvl : vcur.toList.length = vc * 2 := by simpa using hvs
  have hX5 : (vcur.toList.take 2).length = 2 := by rw [List.length_take]; omega
  have hvh' : w.heap[vb]? = some (.cells (vcur.toList.take 2 ++ vcur.toList.drop 2).toArray 49 (0, 0)) := by
    rw [List.take_append_drop]
    simpa using hvh
  -- what a world that keeps all but one block says
  have grow : ∀ (b : Nat) (w' : World), (b < w.heap.size → hblk v0 = some b) → Kept b w w' → Grow (ownB [.own 49 2 xs, .fz (.int .i64 i), .own 49 2 [x]] #[v0, .int .i64 i, .slice (some ⟨vb, 0, none⟩) 1 vc].toList) F w F w' := by
    intro b w' hb hk
    refine ⟨fun _ _ h => h, fun _ _ h => .inl h, fun c o h => Nat.lt_of_lt_of_le (hfwf c o h) hk.size, hk.size, fun c hc hO => ?_, hk.os, hk.tape, hk.output⟩
    by_cases hcb : c = b
    · subst hcb
      exact absurd (hown0 c (hb hc)) hO
    · exact hk.same c hcb hc
  by_cases hin : i = xs.length
  · subst hin
    obtain ⟨A, c, hA, hnc, hcm, hAn⟩ : ∃ A c, v0 = .slice A xs.length c ∧ xs.length ≤ c ∧ c ≤ 9223372036854775807 ∧ (A = none → c = 0) := by
      rcases hv0.2 with ⟨h, A, rfl⟩ | ⟨g, cap, cur, rfl, h0, _, _, _, h1, h2, _⟩
      · subst h
        exact ⟨A, 0, rfl, Nat.le_refl _, by omega, fun _ => rfl⟩
      · exact ⟨_, cap, rfl, h1, by simpa [maxLen] using h2, fun h => by cases h⟩
    obtain ⟨i0, hi0, hz0, hzs, hzb⟩ := info_parts (show (Try.prog.info? 49).map (fun i => (i.zero, i.size, i.bytes)) = some (some (.agg #[.string ⟨#[]⟩, .string ⟨#[]⟩]), 2, 32) by kernel_rfl)
    have hsrc : SrcOK F w i0.size [x] (some ⟨vb, 0, none⟩) := by
      refine ⟨by intro y hy; rw [hzs]; simp at hy; subst hy; exact hx5, .inr ⟨vb, 0, vcur.toList.take 2, rfl, ?_, hv1c, by simpa using hvall⟩⟩
      intro j u hj
      rw [cell_of_row w vb _ _ _ _ hvh, Nat.zero_add]
      rw [List.getElem?_take] at hj
      split at hj
      · simpa using hj
      · cases hj
    obtain ⟨v', w', hr, g1, g2, g3, g4, g5, g6, g7⟩ := append_ok (P := Try.prog) (F := F) hN hfwf (t := 23) (ty := 23) (e := 49) Try.underlying23 hi0 hz0 (by rw [hzs]; rfl) (by omega) (xs := xs) (ys := [x]) (v := v0) (by rw [hzs]; exact hv0') (B := some ⟨vb, 0, none⟩) (c := vc) hsrc (by simp [maxLen]; omega) (by rw [hzb]; simp; omega)
    rw [hA] at hr
    have hcalls := ins_end (w := w) (A := A) (n := xs.length) (c := c) (vb := vb) (vc := vc) hAn hnc hcm hr
    rw [hA]
    refine hcalls.mono ?_
    rintro e w'' ⟨rfl, rfl⟩
    rw [← hA]
    refine ⟨v', F, rfl, ⟨fun _ _ h => h, fun _ _ h => .inl h, fun c o h => Nat.lt_of_lt_of_le (hfwf c o h) g3, g3, fun c hc hO => ?_, g4, g5, g6⟩, ?_⟩
    · exact g2 c (fun h => hO (hown0 c h)) hc
    · show VecOK F w'' _ 49 2 _ v'
      rw [hzs] at g1
      simpa using g1
  · have hlt : i < xs.length := by omega
    rcases hv0'.2 with ⟨h, _⟩ | ⟨g, c, cur, rfl, hc0, hNg, hF, hgh, hnc, hcm, hcs, h1c, hall⟩
    · subst h
      simp at hlt
    have hne : vb ≠ g := by
      intro h
      subst h
      have := hdis 0 2 49 2 xs 49 2 [x] (.slice (some ⟨vb, 0, none⟩) xs.length c) (.slice (some ⟨vb, 0, none⟩) 1 vc) vb rfl rfl rfl rfl (by simp only [hblk, if_neg (Nat.pos_iff_ne_zero.1 hc0)]) (by simp only [hblk, if_neg (Nat.pos_iff_ne_zero.1 hvc)])
      omega
    have hcl : cur.toList.length = c * 2 := by simpa using hcs
    have hm5 : i * 2 ≤ xs.length * 2 := by omega
    have hcm5 : xs.length * 2 ≤ c * 2 := by omega
    have hAl : (cur.toList.take (i * 2)).length = i * 2 := by rw [List.length_take]; omega
    have hQl : ((cur.toList.drop (i * 2)).take ((xs.length - i) * 2)).length = (xs.length - i) * 2 := by rw [List.length_take, List.length_drop]; omega
    have hcur : cur.toList.take (i * 2) ++ (cur.toList.drop (i * 2)).take ((xs.length - i) * 2) ++ cur.toList.drop (xs.length * 2) = cur.toList := by
      have e : xs.length * 2 = i * 2 + (xs.length - i) * 2 := by omega
      rw [e, List.append_assoc, ← List.drop_drop, List.take_append_drop, List.take_append_drop]
    have htk : cur.toList.take (xs.length * 2) = cur.toList.take (i * 2) ++ (cur.toList.drop (i * 2)).take ((xs.length - i) * 2) := by
      have e : xs.length * 2 = i * 2 + (xs.length - i) * 2 := by omega
      rw [e, List.take_add]
    rw [htk] at h1c hall
    generalize hAA : cur.toList.take (i * 2) = A at *
    generalize hQQ : (cur.toList.drop (i * 2)).take ((xs.length - i) * 2) = Q at *
    generalize hRR : cur.toList.drop (xs.length * 2) = R at *
    have hRl : R.length = (c - xs.length) * 2 := by rw [← hRR, List.length_drop]; omega
    have hgh' : w.heap[g]? = some (.cells (A ++ Q ++ R).toArray 49 (0, 0)) := by
      rw [hcur]
      simpa using hgh
    have hQ1 : ∀ u ∈ Q, u.oneCell' = true := fun u hu => h1c u (by simp [hu])
    have hA1 : ∀ u ∈ A, u.oneCell' = true := fun u hu => h1c u (by simp [hu])
    have hft := flat_takeI xs i (sz := 2) hv0.1
    have hallA : All2 (RF F w) (xs.take i).flatten A := by
      rw [hft.1]
      exact hall.take' hAl
    have hallQ : All2 (RF F w) (xs.drop i).flatten Q := by
      rw [hft.2]
      have := hall.drop (i * 2)
      rwa [List.drop_left' hAl] at this
    have hlen : (xs.take i ++ x :: xs.drop i).length = xs.length + 1 := by
      simp only [List.length_append, List.length_take, List.length_cons, List.length_drop]
      omega
    have hrow : ∀ y ∈ xs.take i ++ x :: xs.drop i, y.length = 2 := by
      intro y hy
      rcases List.mem_append.1 hy with h | h
      · exact hv0.1 y (List.mem_of_mem_take h)
      · rcases List.mem_cons.1 h with h | h
        · rw [h]; exact hx5
        · exact hv0.1 y (List.mem_of_mem_drop h)
    -- the new row reads as the list
    have reads : ∀ (w' : World) (b : Nat) (S : List Value), Kept b w w' → (b < w.heap.size → b = g) → (A ++ vcur.toList.take 2 ++ Q ++ S).length = (A ++ vcur.toList.take 2 ++ Q ++ S).length →
        (∀ u ∈ (A ++ vcur.toList.take 2 ++ Q ++ S).take ((xs.take i ++ x :: xs.drop i).length * 2), u.oneCell' = true) ∧ All2 (RF F w') (xs.take i ++ x :: xs.drop i).flatten ((A ++ vcur.toList.take 2 ++ Q ++ S).take ((xs.take i ++ x :: xs.drop i).length * 2)) := by
      intro w' b S hk hbg _
      have hkp : Keeps F w F w' := ⟨fun _ _ h => h, fun c o hb => by
        refine cell_of_block (hk.same c ?_ (hfwf c o hb)) o
        intro h
        subst h
        rw [hbg (hfwf c o hb)] at hb
        exact hF o hb⟩
      have et : (A ++ vcur.toList.take 2 ++ Q ++ S).take ((xs.take i ++ x :: xs.drop i).length * 2) = A ++ vcur.toList.take 2 ++ Q := by
        rw [hlen]
        exact List.take_left' (by simp only [List.length_append]; omega)
      rw [et]
      refine ⟨?_, ?_⟩
      · intro u hu
        simp only [List.mem_append] at hu
        rcases hu with (hu | hu) | hu
        · exact hA1 u hu
        · exact hv1c u hu
        · exact hQ1 u hu
      · rw [List.flatten_append, List.flatten_cons, List.append_assoc]
        exact ((hallA.append (hvall.append hallQ)).mono fun _ _ => RF.mono hkp _ _)
    by_cases hroom : xs.length < c
    · refine (ins_room (n := xs.length) hgh' hAl hQl hRl hroom (by simpa [maxLen] using hcm) hlt hvh' hX5 hne hQ1 hv1c).mono ?_
      rintro e w' ⟨rfl, g1, g2⟩
      have hgw : g < w.heap.size := (Array.getElem?_eq_some_iff.1 hgh).1
      refine ⟨_, F, rfl, grow g w' (fun _ => by simp only [hblk, if_neg (Nat.pos_iff_ne_zero.1 hc0)]) g2, ?_⟩
      have hrd := reads w' g (R.drop 2) g2 (fun _ => rfl) rfl
      refine ⟨hrow, .inr ⟨g, c, _, by rw [hlen], hc0, hNg, hF, g1, by omega, hcm, ?_, hrd.1, hrd.2⟩⟩
      simp only [List.size_toArray, List.length_append, List.length_drop, List.length_take]
      omega
    · obtain rfl : c = xs.length := by omega
      have hR0 : R = [] := List.eq_nil_of_length_eq_zero (by omega)
      rw [hR0, List.append_nil] at hgh'
      refine (ins_grow (n := xs.length) hgh' hAl hQl hb hlt hvh' hX5 hQ1 hv1c).mono ?_
      rintro e w' ⟨G, Z, rfl, hG1, hG2, hZl, g1, g2⟩
      refine ⟨_, F, rfl, grow w.heap.size w' (fun h => absurd h (Nat.lt_irrefl _)) g2, ?_⟩
      have hrd := reads w' w.heap.size Z g2 (fun h => absurd h (Nat.lt_irrefl _)) rfl
      refine ⟨hrow, .inr ⟨w.heap.size, G, _, by rw [hlen], by omega, .inl (Nat.le_refl _), fun o ho => Nat.lt_irrefl _ (hfwf _ o ho), g1, by omega, hG2, ?_, hrd.1, hrd.2⟩⟩
      simp only [List.size_toArray, List.length_append]
      omega
end Go.Proofs.Ytklbfafdioeehaa.E
