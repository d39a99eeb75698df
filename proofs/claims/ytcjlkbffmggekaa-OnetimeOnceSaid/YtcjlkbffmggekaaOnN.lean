/-
  OnN: walks of functions of the program at data level.
-/
import Derived.Test.YtcjlkbffmggekaaProg
import Derived.Test.YtcjlkbffmggekaaEngZ
import Derived.Test.YtcjlkbffmggekaaOnM
import Derived.Test.YtcjlkbffmggekaaOnI
import Derived.KernelRfl
set_option linter.unusedVariables false
set_option linter.unusedSimpArgs false
namespace Go.Proofs.Ytcjlkbffmggekaa.E
open Go
set_option maxHeartbeats 4000000
set_option maxRecDepth 100000
set_option linter.unusedSimpArgs false
set_option linter.unusedVariables false
attribute [local congr] c_wp c_ops c_op c_opS c_run c_runS c_dt c_seq c_blk c_loop c_S c_put c_bind c_mv c_pick c_nt c_ng c_bin c_binI c_binS c_beq c_B c_eqa c_hd c_cells c_blkK c_box c_vec c_mp c_nck c_mks c_appn c_mkm c_mput c_mlk c_mrm c_take c_ld c_ldF c_cellsK c_st c_fld c_fldv c_ix c_ixp c_ixv c_ixs c_sub c_subs c_len c_lens c_src c_dst c_ow c_app c_ext c_mm c_conv c_str c_isn c_fill c_rows c_boxo c_frz c_frzO c_frzA c_frzV c_spec c_specO c_opsP c_opP c_runP c_specP c_Z c_qretP c_fz c_fn c_gv c_cond c_res1 c_resL c_ret c_qret c_ite c_unr c_nx c_bk c_cut c_is
attribute [local irreducible] dwp

structure OT where
  user : List UInt8
  dev : List UInt8
  next : Int
  left : Int
def encOT (x : OT) : List DV := [.str x.user, .str x.dev, .int .i64 x.next, .int .i64 x.left]
theorem eqK_p (x y : Lk) : eqK KKp (.agg (encLk x)) (.agg (encLk y)) = decide (x = y) := by
  obtain ⟨a, b⟩ := x
  obtain ⟨c, d⟩ := y
  rw [Bool.eq_iff_iff]
  simp [eqK, eqKey, eqPs, eqP, andO, encLk]
def putV : List (Lk × Int) → Lk → Int → List (Lk × Int)
  | [], q, a => [(q, a)]
  | p :: l, q, a => if q = p.1 then (q, a) :: l else p :: putV l q a
theorem kputV (q : Lk) (a : Int) : ∀ l : List (Lk × Int), mpPut KKp (kentV l) (.agg (encLk q)) (.int .i64 a) = kentV (putV l q a)
  | [] => rfl
  | p :: l => by
    have ih := kputV q a l
    simp only [kentV, List.map_cons, mpPut, eqK_p, decide_eq_true_eq, putV] at ih ⊢
    by_cases h : q = p.1
    · simp [h]
    · rw [if_neg h, if_neg h, ih]
      rfl
theorem kputV' (x : OT) (l : List (Lk × Int)) : mpPut (.ag [.s, .s]) (kentV l) (.agg [.str x.user, .str x.dev]) (.int .i64 x.left) = kentV (putV l (x.user, x.dev) x.left) := kputV (x.user, x.dev) x.left l
theorem lkV_put (l : List (Lk × Int)) (q : Lk) (a : Int) (q' : Lk) : lkV (putV l q a) q' = if q' = q then some a else lkV l q' := by
  induction l with
  | nil => simp [putV, lkV]
  | cons p l ih =>
    unfold putV
    by_cases h : q = p.1
    · rw [if_pos h]
      unfold lkV
      by_cases h2 : q' = q
      · simp [h2]
      · rw [if_neg h2, if_neg h2, if_neg (by rw [← h]; exact h2)]
    · rw [if_neg h]
      unfold lkV
      rw [ih]
      by_cases h2 : q' = p.1
      · rw [if_pos h2, if_pos h2, if_neg (by rw [h2]; exact fun e => h e.symm)]
      · rw [if_neg h2, if_neg h2]
theorem putV_keys (l : List (Lk × Int)) (q : Lk) (a : Int) : ∀ k, k ∈ (putV l q a).map (·.1) → k = q ∨ k ∈ l.map (·.1) := by
  induction l with
  | nil => intro k; simp [putV]
  | cons p l ih =>
    intro k
    unfold putV
    split
    · simp
      rintro (h | h)
      · exact .inl h
      · exact .inr (.inr h)
    · simp only [List.map_cons, List.mem_cons]
      rintro (h | h)
      · exact .inr (.inl h)
      · rcases ih k h with h | h
        · exact .inl h
        · exact .inr (.inr h)
theorem putV_nodup (l : List (Lk × Int)) (q : Lk) (a : Int) (h : (l.map (·.1)).Nodup) : ((putV l q a).map (·.1)).Nodup := by
  induction l with
  | nil => simp [putV]
  | cons p l ih =>
    rw [List.map_cons, List.nodup_cons] at h
    unfold putV
    split
    · rename_i hq
      rw [List.map_cons, List.nodup_cons]
      exact ⟨by show q ∉ _; rw [hq]; exact h.1, h.2⟩
    · rename_i hq
      rw [List.map_cons, List.nodup_cons]
      refine ⟨fun hm => ?_, ih h.2⟩
      rcases putV_keys l q a _ hm with e | e
      · exact hq e.symm
      · exact h.1 e
def kvB : List OT → List (Lk × Int)
  | [] => []
  | x :: l => putV (kvB l) (x.user, x.dev) x.left
theorem kvB_nodup : ∀ l, ((kvB l).map (·.1)).Nodup
  | [] => by simp [kvB]
  | x :: l => putV_nodup _ _ _ (kvB_nodup l)
def isD (u d : List UInt8) (x : OT) : Bool := decide (x.user = u ∧ x.dev = d)
def leftL (es : List OT) (u d : List UInt8) : Int := match es.find? (isD u d) with
  | some x => x.left
  | none => 0
theorem kvB_lk (u d : List UInt8) : ∀ l, (lkV (kvB l) (u, d)).getD 0 = leftL l u d
  | [] => rfl
  | x :: l => by
    have ih := kvB_lk u d l
    unfold leftL at *
    rw [show kvB (x :: l) = putV (kvB l) (x.user, x.dev) x.left from rfl, lkV_put, List.find?_cons]
    by_cases h : x.user = u ∧ x.dev = d
    · rw [if_pos (by rw [h.1, h.2]), show isD u d x = true from decide_eq_true h]
      rfl
    · rw [if_neg (fun e => h (by simp at e; exact ⟨e.1.symm, e.2.symm⟩)), show isD u d x = false from decide_eq_false h]
      exact ih
def ac29 : AC := (.seq (.ops [⟨(some 1), none, (.box (.t 0))⟩, ⟨(some 2), none, (.mv (.c .nilfn))⟩]) (.seq (.ops [⟨(some 3), none, (.mkfn 36 [(.t 1)])⟩, ⟨(some 2), none, (.mv (.t 3))⟩]) .ret))
theorem tr29 : Try.f29.body.bind (trCode Try.prog) = some (strip ac29) := by kernel_rfl
theorem spec29 (rows : List (List DV)) : Spec Try.prog 29 [.fz (.sl 4 rows)] (.fz (.fn 36 [.pf [.sl 4 rows]])) := by
  refine spec_at (n := 3) (ars := [(.t 2)]) (ac := ac29) Try.func29 (by kernel_rfl) (by kernel_rfl) tr29 (by kernel_rfl) ?_
  unfold ac29
  iterate 30 (all_goals (try (first
    | (with_reducible refine ite_in (fun _ => ?_) (fun _ => ?_))
    | (with_reducible refine ⟨fun _ => ?_, fun _ => ?_⟩)
    | (with_reducible refine And.intro ?_ ?_)
    | (with_reducible intro _)
    | (with_reducible exact is_in _)
    | (simp -implicitDefEqProofs only [SD, SF, SL, e_nf, reduceCtorEq, implies_true, ↓reduceIte, Nat.reduceEqDiff, Nat.reduceAdd, Nat.reduceMul, Nat.reduceSub, Nat.reduceLeDiff, Nat.reduceLT, Int.reduceLT, Int.reduceLE, Int.reduceEq, Int.reduceToNat, Int.reduceAdd, Int.reduceSub, Int.reduceNeg, Int.reduceBEq, Int.reduceBNe, Nat.reduceBEq, Int.cast_ofNat_Int, decide_true, decide_false, ne_eq, eq_self_iff_true, beq_eq_false_iff_ne, bne_iff_ne, List.replicate, *]))))
def ac_p17a : AC := (.ops [⟨(some 6), none, (.mv (.c (.int .i64 0)))⟩])
theorem tr_p17a : trCodeF Try.prog [] (p17a (Try.f17.body.getD .skip)) = some (strip ac_p17a) := by kernel_rfl
def ac_p17b : AC := (.ops [⟨(some 12), none, (.mv (.t 0))⟩, ⟨(some 13), none, (.len (.t 12))⟩, ⟨(some 14), none, (.mkm (.ag [.s, .s]) (some (.t 13)))⟩, ⟨(some 7), none, (.alloc [.any])⟩, ⟨none, none, (.sto 1 (.t 7) (.t 14))⟩])
theorem tr_p17b : trCodeF Try.prog [] (p17b (Try.f17.body.getD .skip)) = some (strip ac_p17b) := by kernel_rfl
def ac_q17 : AC := (.ops [⟨(some 15), none, (.mv (.t 0))⟩, ⟨(some 16), none, (.call false 29 [(.t 15)])⟩])
theorem tr_q17 : trCodeF Try.prog [] (q17 (Try.f17.body.getD .skip)) = some (strip ac_q17) := by kernel_rfl
def ac_a17 : AC := (.ops [⟨(some 9), none, (.alloc [(.str []), (.str []), (.int .i64 0), (.int .i64 0)])⟩, ⟨none, none, (.sto 4 (.t 9) (.t 18))⟩])
theorem tr_a17 : trCodeF Try.prog [] (a17 (Try.f17.body.getD .skip)) = some (strip ac_a17) := by kernel_rfl
def ac_y17 : AC := (.block 1 (.ops [⟨(some 19), none, (.ld false 1 (.t 7))⟩, ⟨(some 20), none, (.fld 0 (.t 9))⟩, ⟨(some 21), none, (.ld false 1 (.t 20))⟩, ⟨(some 22), none, (.fld 1 (.t 9))⟩, ⟨(some 23), none, (.ld false 1 (.t 22))⟩, ⟨(some 24), none, (.build [(.str []), (.str [])] [(0, (1, (.t 21))), (1, (1, (.t 23)))])⟩, ⟨(some 25), none, (.fld 3 (.t 9))⟩, ⟨(some 26), none, (.ld false 1 (.t 25))⟩, ⟨none, none, (.mput (.ag [.s, .s]) (.t 19) (.t 24) (.t 26))⟩]))
theorem tr_y17 : trCodeF Try.prog [] (y17 (Try.f17.body.getD .skip)) = some (strip ac_y17) := by kernel_rfl

theorem body17 : Try.f17.body = some (plug [p17a (Try.f17.body.getD .skip), p17b (Try.f17.body.getD .skip)] (.seq (.seq (q17 (Try.f17.body.getD .skip)) (.block 0 (.rangeFunc (.tmp 16) [17, 18].toArray (a17 (Try.f17.body.getD .skip)) (y17 (Try.f17.body.getD .skip))))) (c17 (Try.f17.body.getD .skip)))) := by kernel_rfl
def Post17 (kvs : List (Lk × Int)) (u v : List UInt8) (s : DS) : Prop := s.env.length = 45 ∧ s.env[1]? = some (.str u) ∧ s.env[2]? = some (.str v) ∧ s.env[7]? = some (.ml 7 0) ∧ mget s.mem 7 = some (.box [.ow 14]) ∧ mget s.mem 14 = some (.mp KKp (kentV kvs))
theorem preK_c (P : Program) (ac : AC) (l : List AC) (K : DS → Prop) (s : DS) : preK P (ac :: l) K s = dwp P ac s (aQ (preK P l K)) := rfl
theorem preK_n (P : Program) (K : DS → Prop) (s : DS) : preK P [] K s = K s := rfl
def E17b (es : List OT) (u v : List UInt8) : List DV := [.sl 4 (es.map encOT), .str u, .str v, .any, .any, .any, .int .i64 0, .ml 7 0, .any, .any, .any, .any, .sl 4 (es.map encOT), .int .i64 es.length, .any, .sl 4 (es.map encOT), .fn 36 [.pf [.sl 4 (es.map encOT)]]] ++ List.replicate 28 .any
theorem walk17 (es : List OT) (u v : List UInt8) (hb : es.length ≤ 1000) : preK Try.prog [ac_p17a, ac_p17b] (fun s1 => dwp Try.prog ac_q17 s1 (aQ (RngK Try.prog [7] [14] [17, 18] (.t 16) ac_a17 ac_y17 0 (Post17 (kvB es) u v)))) ⟨argE 0 [.fz (.sl 4 (es.map encOT)), .fz (.str u), .fz (.str v)] ++ List.replicate 42 .any, argM 0 [.fz (.sl 4 (es.map encOT)), .fz (.str u), .fz (.str v)]⟩ := by
  unfold ac_p17a ac_p17b ac_q17
  have hbl : (es.map encOT).length ≤ 1000 := by simpa using hb
  iterate 12 (all_goals (try (first
    | ((with_reducible refine of_kSpec ?_); refine call_fz (spec29 (es.map encOT)) rfl ?_)
    | (with_reducible refine ite_in (fun _ => ?_) (fun _ => ?_))
    | (with_reducible refine ⟨fun _ => ?_, fun _ => ?_⟩)
    | (with_reducible refine And.intro ?_ ?_)
    | (with_reducible intro _)
    | (with_reducible exact is_in _)
    | (simp -implicitDefEqProofs only [SD, SF, SL, e_nf, reduceCtorEq, implies_true, ↓reduceIte, Nat.reduceEqDiff, Nat.reduceAdd, Nat.reduceMul, Nat.reduceSub, Nat.reduceLeDiff, Nat.reduceLT, Int.reduceLT, Int.reduceLE, Int.reduceEq, Int.reduceToNat, Int.reduceAdd, Int.reduceSub, Int.reduceNeg, Int.reduceBEq, Int.reduceBNe, Nat.reduceBEq, Int.cast_ofNat_Int, decide_true, decide_false, ne_eq, eq_self_iff_true, beq_eq_false_iff_ne, bne_iff_ne, List.replicate, preK_c, preK_n, aQ_n, *]))))
  refine ⟨36, _, backR (es.map encOT), fun i m => i ≤ es.length ∧ m = [(7, .box [.ow 14]), (14, .mp (.ag [.s, .s]) (kentV (kvB (es.drop (es.length - i)))))], fun _ _ => False, rfl, iter36 _ hbl, ?_, rfl, ⟨Nat.zero_le _, by simp [kvB, kentV]⟩, ?_, ?_, fun _ _ h => h.elim⟩
  · intro y hy
    simp only [backR, List.mem_map] at hy
    obtain ⟨i, _, rfl⟩ := hy
    rfl
  · rintro i m y hy ⟨hi, rfl⟩
    have hlt : i < es.length := by
      have := (List.getElem?_eq_some_iff.1 hy).1
      rw [backR_len] at this
      simpa using this
    obtain ⟨k, hk⟩ : ∃ k, k = es.length - (i + 1) := ⟨_, rfl⟩
    have hkl : k < es.length := by omega
    have hy' := backR_get (rows := es.map encOT) (k := k) (by simpa using hkl)
    rw [show (es.map encOT).length - (k + 1) = i by simp; omega, hy] at hy'
    obtain rfl := Option.some.inj hy'
    have hdr : es.drop (es.length - (i + 1)) = es[k] :: es.drop (es.length - i) := by
      rw [← hk, List.drop_eq_getElem_cons hkl]
      congr 2
      omega
    have hrow : (es.map encOT).getD k [] = [.str es[k].user, .str es[k].dev, .int .i64 es[k].next, .int .i64 es[k].left] := by
      simp [List.getD, hkl, encOT]
    rw [hrow]
    have hkv : kvB (es.drop (es.length - (i + 1))) = putV (kvB (es.drop (es.length - i))) (es[k].user, es[k].dev) es[k].left := by rw [hdr]; rfl
    have hb2 := hkv
    clear hy hy' hrow hdr
    generalize es[k] = x at *
    generalize kvB (es.drop (es.length - i)) = kv at *
    unfold ac_a17 ac_y17
    iterate 12 (all_goals (try (first
      | (with_reducible refine ite_in (fun _ => ?_) (fun _ => ?_))
      | (with_reducible refine ⟨fun _ => ?_, fun _ => ?_⟩)
      | (with_reducible refine And.intro ?_ ?_)
      | (with_reducible intro _)
      | (with_reducible exact is_in _)
      | (simp -implicitDefEqProofs only [SD, SF, SL, e_nf, reduceCtorEq, implies_true, ↓reduceIte, Nat.reduceEqDiff, Nat.reduceAdd, Nat.reduceMul, Nat.reduceSub, Nat.reduceLeDiff, Nat.reduceLT, Int.reduceLT, Int.reduceLE, Int.reduceEq, Int.reduceToNat, Int.reduceAdd, Int.reduceSub, Int.reduceNeg, Int.reduceBEq, Int.reduceBNe, Nat.reduceBEq, Int.cast_ofNat_Int, decide_true, decide_false, ne_eq, eq_self_iff_true, beq_eq_false_iff_ne, bne_iff_ne, List.replicate, preK_c, preK_n, aQ_n, bQ_n, setPs, kputV', hi]))))
    · exact fun j hj => by simp at hj; subst hj; rfl
    · exact ⟨[9], by omega, by rw [hkv]; rfl⟩
  · rintro m ⟨hi, rfl⟩
    rw [show es.length - (backR (es.map encOT)).length = 0 by rw [backR_len]; simp, List.drop_zero]
    exact ⟨rfl, rfl, rfl, rfl, rfl, rfl⟩
theorem spec17 (es : List OT) (u v : List UInt8) (hb : es.length ≤ 1000) : Spec Try.prog 17 [.fz (.sl 4 (es.map encOT)), .fz (.str u), .fz (.str v)] (.fz (.int .i64 (leftL es u v))) := by
  refine ⟨by kernel_rfl, fun F w vs hfwf hargs hdis => ?_⟩
  obtain ⟨M, hi⟩ := @entry_ok Try.f17 [.fz (.sl 4 (es.map encOT)), .fz (.str u), .fz (.str v)] 42 (show Try.f17.ntmps = 42 + 3 by kernel_rfl) _ _ _ hfwf hargs hdis
  refine (callsIn_wide (n := 1)).1 (callsIn_of_wp_marks Try.func17 body17 trivial (rng_body (J := [7]) (ts := [14]) (ps := [17, 18]) (pres := [(p17a (Try.f17.body.getD .skip), ac_p17a), (p17b (Try.f17.body.getD .skip), ac_p17b)]) (bid := 0) (Post := Post17 (kvB es) u v) hi ?_ tr_q17 rfl tr_a17 tr_y17 (by kernel_rfl) (by kernel_rfl) rfl rfl rfl (walk17 es u v hb) ?_) rfl)
  · intro p hp
    simp only [List.mem_cons, List.not_mem_nil, or_false] at hp
    rcases hp with rfl | rfl
    · exact tr_p17a
    · exact tr_p17b
  · rintro a' w' ⟨s, M', F', D, hi', ⟨g1, g2, g3, g4, g5, g6⟩, hd, hD⟩
    refine map17 hi' hd hD g1 g2 g3 g4 g5 g6 (kvB_nodup es) ?_ ?_
    all_goals (
      intro a w h
      rw [kvB_lk] at h
      exact rg_leave h rfl fun w' v' F' h1 h2 => ⟨v', F', rfl, h1, h2⟩)

end Go.Proofs.Ytcjlkbffmggekaa.E
