/-
  Reverse, in place.
-/
import Derived.Test.YtamcbdflmephdaaFiY
import Derived.Test.YtamcbdflmephdaaFiW
import Derived.Test.YtamcbdflmephdaaProg
import Derived.Test.YtamcbdflmephdaaEngZ
import Derived.KernelRfl
set_option linter.unusedVariables false
set_option linter.unusedSimpArgs false
set_option linter.unusedSimpArgs false
set_option linter.unusedVariables false
set_option maxRecDepth 100000
set_option maxHeartbeats 2000000
namespace Go.Proofs.Ytamcbdflmephdaa.E
open Go
theorem body38 : Try.f38.body = some (Try.f38.body.getD .skip) := by kernel_rfl
theorem tr38' : trCodeF Try.prog [] (Try.f38.body.getD .skip) = some (strip ac38) := by kernel_rfl
theorem no38 : noDp ac38 = true := by kernel_rfl
theorem calm38 : calmCode [0] (Try.f38.body.getD .skip) = true := by kernel_rfl
theorem nt38 : Try.f38.ntmps = 28 := by kernel_rfl
theorem res38 : Try.f38.results = #[] := by kernel_rfl
theorem VecOK.mono {F : Frz} {w : World} {N N' : Nat → Prop} {e sz : Nat} {xs : List (List DV)} {v : Value} (h : VecOK F w N e sz xs v) (hN : ∀ b, hblk v = some b → N b → N' b) : VecOK F w N' e sz xs v := by
  refine ⟨h.1, ?_⟩
  rcases h.2 with h2 | ⟨g, cap, cur, rfl, hc, h3, h4⟩
  · exact .inl h2
  · exact .inr ⟨g, cap, cur, rfl, hc, hN g (by simp only [hblk, if_neg (Nat.pos_iff_ne_zero.1 hc)]) h3, h4⟩
theorem VecOK.one {F : Frz} {w : World} {N : Nat → Prop} {e sz : Nat} {xs : List (List DV)} {v : Value} (h : VecOK F w N e sz xs v) : v.oneCell' = true := by
  rcases h.2 with ⟨_, A, rfl⟩ | ⟨g, cap, cur, rfl, _⟩ <;> rfl
theorem VecOK.free {F : Frz} {w : World} {N : Nat → Prop} {e sz : Nat} {xs : List (List DV)} {v : Value} (h : VecOK F w N e sz xs v) {b : Nat} (hb : hblk v = some b) : N b ∧ ∀ o, ¬ F b o := by
  rcases h.2 with ⟨_, A, rfl⟩ | ⟨g, cap, cur, rfl, hc, h3, h4, _⟩
  · cases A <;> simp [hblk] at hb
  · simp only [hblk, if_neg (Nat.pos_iff_ne_zero.1 hc), Option.some.injEq] at hb
    subst hb
    exact ⟨h3, h4⟩
theorem rev38 {F : Frz} {w : World} {v : Value} {es : List Ev} {N : Nat → Prop} (hf : ∀ b o, F b o → b < w.heap.size) (hb : es.length ≤ 1000) (hv : VecOK F w N 41 29 (es.map encEv) v) :
    Calls Try.prog 38 #[v] w fun e w' => (∃ u, e = .returned u) ∧ ∃ F', Grow (fun b => hblk v = some b) F w F' w' ∧ VecOK F' w' (Nw (fun b => hblk v = some b) w) 41 29 (es.reverse.map encEv) v := by
  refine (callsIn_wide (n := 1)).1 (callsIn_of_wp Try.func38 body38 trivial ?_ rfl)
  generalize ha : ({ tmps := #[v] ++ Array.replicate (Try.f38.ntmps - (#[v] : Array Value).size) undef, defers := [] } : Act) = a0
  have h0 : a0.tmps[0]? = some v := by subst ha; simp
  have hd : a0.defers = [] := by subst ha; rfl
  have hs : a0.tmps.size = 28 := by subst ha; simp [nt38]
  clear ha
  have hi : Inv (fun b => hblk v = some b) F w (fun k => if k = 0 then some v else none) F ([.ow 0] ++ List.replicate 27 .any) [(0, .vec 41 29 (es.map encEv))] a0 w := by
    refine ⟨hd, ?_, fun k blk hk => ?_, fun k k' blk blk' v v' b hk hk' _ _ _ _ => ?_, ⟨fun _ _ h => h, fun _ _ h => .inl h, hf, Nat.le_refl _, fun _ _ _ => rfl, rfl, rfl, rfl⟩⟩
    · refine All2.of_get (by simp [hs]) fun i d' u hi hu => ?_
      have hu : a0.tmps[i]? = some u := by simpa using hu
      cases i with
      | zero => rw [h0] at hu; cases hu; cases hi; exact ⟨rfl, hv.one⟩
      | succ i =>
        have : d' = .any := by
          have e : ([DV.ow 0] ++ List.replicate 27 DV.any)[i + 1]? = (List.replicate 27 DV.any)[i]? := rfl
          rw [e, List.getElem?_replicate] at hi
          split at hi
          · cases hi; rfl
          · cases hi
        subst this
        exact RV_RVc RVc_any
    · simp only [mget] at hk
      split at hk
      · rename_i h
        subst h
        cases hk
        exact ⟨v, rfl, hv.mono fun b hb _ => .inr hb⟩
      · cases hk
    · simp only [mget] at hk hk'
      split at hk
      · split at hk'
        · omega
        · cases hk'
      · cases hk
  show (Try.f38.body.getD .skip).wpIn (Gf none) 1 Try.prog _ a0 w
  have hi' : Inv (fun b => hblk v = some b) F w (fun k => if k = 0 then some v else none) F ([.ow 0] ++ List.replicate 27 .any) [(0, .vec 41 29 (es.map encEv))] (less [] a0) w := by
    have : less [] a0 = a0 := by rw [← hd]; rfl
    rw [this]; exact hi
  refine wpIn_mono (dwpX_sound (ro := none) (n := 1) (J := [0]) (t0 := a0.tmps) (ds := []) ac38 no38 tr38' calm38 (pre := []) hd (fun j hj => rfl) (s := ⟨[.ow 0] ++ List.replicate 27 .any, [(0, .vec 41 29 (es.map encEv))]⟩) hi' (walk38 es hb)) fun e a' w' hq => ?_
  cases e with
  | normal =>
    obtain ⟨pre, hd', hv', s', M', F', hi', -, g0, g1⟩ := hq
    have : less pre a' = a' := by
      rw [List.append_nil] at hd'
      rw [← hd']; rfl
    rw [this] at hi'
    refine ⟨hi'.dl, _, results_none res38 _ _ _, ⟨_, rfl⟩, F', hi'.grow, ?_⟩
    obtain ⟨v', e1, q1, _⟩ := slot_of hi' g0
    rw [hv' 0 (by simp), h0] at e1
    cases e1
    obtain ⟨v2, q2, q3⟩ := hi'.mm 0 _ g1
    rw [q1] at q2
    cases q2
    exact q3
  | ret => obtain ⟨_, _, _, _, _, _, _, h, _⟩ := hq; cases h
  | exit id => obtain ⟨_, _, _, _, _, _, _, h, _⟩ := hq; cases h
  | panic ch => obtain ⟨_, _, _, _, _, _, _, _, _, _, _, h, _⟩ := hq; cases h
  | _ => obtain ⟨_, _, _, h⟩ := hq; exact h.elim
/-- what is kept of a list's own when it was changed in place -/
theorem inv_inplace {O : Nat → Prop} {F0 F F' : Frz} {w0 w w' : World} {M : Hnd} {env : List DV} {mem mem' : Mem} {a : Act} {k e sz : Nat} {xs ys : List (List DV)} {v : Value} (hi : Inv O F0 w0 M F env mem a w) (hk : mget mem k = some (.vec e sz xs)) (hv : M k = some v) (hg : Grow (fun b => hblk v = some b) F w F' w')
    (hx : VecOK F' w' (Nw (fun b => hblk v = some b) w) e sz ys v) (hm : ∀ j, mget mem' j = if j = k then some (.vec e sz ys) else mget mem j) : Inv O F0 w0 M F' env mem' a w' := by
  have hbk := hi.mm k _ hk
  have hX : ∀ b, hblk v = some b → Nw O w0 b ∧ (∀ o, ¬ F b o) ∧ b < w.heap.size := fun b hb => hbk.block hv hb
  have h1 := mdels_ok [k] hi
  have hmd : ∀ j, mget (mdels [k] mem) j = if j = k then none else mget mem j := fun j => by
    simp only [mdels]
    exact mget_mdel k mem j
  have h2 := h1.after hg (fun b o hb => (hX b hb).2.1 o) (fun j blk v' b hj hv' hb hb' => by
    rw [hmd] at hj
    split at hj
    · cases hj
    · rename_i hne
      exact hne (hi.dis j k blk _ v' v b hj hk hv' hv hb hb')) (fun b hb => (hX b hb).1)
  refine ⟨h2.dl, h2.ev, fun j blk hj => ?_, fun j j' blk blk' u u' b hj hj' hu hu' hb hb' => ?_, h2.grow⟩
  · rw [hm] at hj
    split at hj
    · rename_i h
      subst h
      cases hj
      exact ⟨v, hv, hx.mono fun b hb hn => (hX b hb).1⟩
    · rename_i hne
      exact h2.mm j blk (by rw [hmd, if_neg hne]; exact hj)
  · have old : ∀ j blk, mget mem' j = some blk → ∃ blk', mget mem j = some blk' := fun j blk hj => by
      rw [hm] at hj
      split at hj
      · rename_i h; subst h; exact ⟨_, hk⟩
      · exact ⟨_, hj⟩
    obtain ⟨b1, g1⟩ := old j blk hj
    obtain ⟨b2, g2⟩ := old j' blk' hj'
    exact hi.dis j j' b1 b2 u u' b g1 g2 hu hu' hb hb'
end Go.Proofs.Ytamcbdflmephdaa.E

namespace Go.Proofs.Ytamcbdflmephdaa.E
open Go
set_option maxHeartbeats 4000000
set_option maxRecDepth 100000
set_option linter.unusedSimpArgs false
set_option linter.unusedVariables false
attribute [local congr] c_wp c_ops c_op c_opS c_run c_runS c_dt c_seq c_blk c_loop c_S c_put c_bind c_mv c_pick c_nt c_ng c_bin c_binI c_binS c_beq c_B c_eqa c_hd c_cells c_blkK c_box c_vec c_mp c_nck c_mks c_appn c_mkm c_mput c_mlk c_mrm c_take c_ld c_ldF c_cellsK c_st c_fld c_fldv c_ix c_ixp c_ixv c_ixs c_sub c_subs c_len c_lens c_src c_dst c_ow c_app c_ext c_mm c_conv c_str c_isn c_fill c_rows c_boxo c_frz c_frzO c_frzA c_frzV c_spec c_specO c_opsP c_opP c_runP c_specP c_Z c_qretP c_fz c_fn c_gv c_cond c_res1 c_resL c_ret c_qret c_ite c_unr c_nx c_bk c_cut c_is
attribute [local irreducible] dwp

/-- the last wanted events, and whether others were left out -/
def wantL (f : Flt) (es : List Ev) : List Ev := (es.filter (wants f)).reverse
def cutL (f : Flt) (es : List Ev) : List Ev × Bool := (((wantL f es).take f.limit.toNat).reverse, decide (f.limit.toNat < (wantL f es).length))
theorem ysW_wantL (f : Flt) (es : List Ev) : ysW f es = (wantL f es).map fun e => [.agg (encEv e)] := rfl
theorem wantL_len (f : Flt) (es : List Ev) : (wantL f es).length ≤ es.length := by
  unfold wantL
  rw [List.length_reverse]
  exact List.length_filter_le _ _
def ac37 : AC := (.seq (.ops [⟨(some 2), none, (.box (.t 0))⟩, ⟨(some 3), none, (.box (.t 1))⟩, ⟨(some 4), none, (.mv (.c .nilfn))⟩]) (.seq (.ops [⟨(some 5), none, (.mkfn 56 [(.t 3), (.t 2)])⟩, ⟨(some 4), none, (.mv (.t 5))⟩]) .ret))
theorem tr37 : Try.f37.body.bind (trCode Try.prog) = some (strip ac37) := by kernel_rfl
theorem spec37 (f : Flt) (es : List Ev) : Spec Try.prog 37 [.fz (.agg (encFl f)), .fz (.sl 29 (es.map encEv))] (.fz (.fn 56 [.pf [.sl 29 (es.map encEv)], .pf (encFl f)])) := by
  refine spec_at (n := 4) (ars := [(.t 4)]) (ac := ac37) Try.func37 (by kernel_rfl) (by kernel_rfl) tr37 (by kernel_rfl) ?_
  unfold ac37
  iterate 30 (all_goals (try (first
    | (with_reducible refine ite_in (fun _ => ?_) (fun _ => ?_))
    | (with_reducible refine ⟨fun _ => ?_, fun _ => ?_⟩)
    | (with_reducible refine And.intro ?_ ?_)
    | (with_reducible intro _)
    | (with_reducible exact is_in _)
    | (simp -implicitDefEqProofs only [SD, SF, SL, e_nf, reduceCtorEq, implies_true, ↓reduceIte, Nat.reduceEqDiff, Nat.reduceAdd, Nat.reduceMul, Nat.reduceSub, Nat.reduceLeDiff, Nat.reduceLT, Int.reduceLT, Int.reduceLE, Int.reduceEq, Int.reduceToNat, Int.reduceAdd, Int.reduceSub, Int.reduceNeg, Int.reduceBEq, Int.reduceBNe, Nat.reduceBEq, Int.cast_ofNat_Int, decide_true, decide_false, ne_eq, eq_self_iff_true, beq_eq_false_iff_ne, bne_iff_ne, List.replicate, encFl, *]))))
def ac_p16a : AC := (.ops [⟨(some 2), none, (.box (.t 0))⟩, ⟨(some 4), none, (.mv (.c .e0))⟩, ⟨(some 5), none, (.mv (.c (.bool false)))⟩])
theorem tr_p16a : trCodeF Try.prog [] (p16a (Try.f16.body.getD .skip)) = some (strip ac_p16a) := by kernel_rfl
def ac_p16b : AC := (.ops [⟨(some 6), none, (.alloc [.e0])⟩])
theorem tr_p16b : trCodeF Try.prog [] (p16b (Try.f16.body.getD .skip)) = some (strip ac_p16b) := by kernel_rfl
def ac_p16c : AC := (.ops [⟨(some 7), none, (.alloc [(.bool false)])⟩, ⟨none, none, (.sto 1 (.t 7) (.c (.bool false)))⟩])
theorem tr_p16c : trCodeF Try.prog [] (p16c (Try.f16.body.getD .skip)) = some (strip ac_p16c) := by kernel_rfl
def ac_q16 : AC := (.ops [⟨(some 9), none, (.ld true 5 (.t 2))⟩, ⟨(some 10), none, (.mv (.t 1))⟩, ⟨(some 11), none, (.call false 37 [(.t 9), (.t 10)])⟩])
theorem tr_q16 : trCodeF Try.prog [] (q16 (Try.f16.body.getD .skip)) = some (strip ac_q16) := by kernel_rfl
def ac_a16 : AC := (.ops [⟨(some 8), none, (.alloc [(.int .i64 0), (.str []), (.str []), (.int .i64 0), (.bool false), (.str []), (.int .i64 0), (.int .i64 0), .e0, .e0, (.str []), (.int .i64 0), (.int .i64 0), (.bool false), (.str []), .e0, .e0, .e0, .e0, (.int .i64 0), (.int .i64 0), (.int .i64 0), (.int .i64 0), (.int .i64 0), (.int .i64 0), (.int .i64 0), (.int .i64 0), (.str []), (.int .i64 0)])⟩, ⟨none, none, (.sto 29 (.t 8) (.t 12))⟩])
theorem tr_a16 : trCodeF Try.prog [] (a16 (Try.f16.body.getD .skip)) = some (strip ac_a16) := by kernel_rfl
def ac_y16 : AC := (.block 1 (.seq (.seq (.ops [⟨(some 13), none, (.ld false 1 (.t 6))⟩, ⟨(some 14), none, (.len (.t 13))⟩, ⟨(some 15), none, (.fld 3 (.t 2))⟩, ⟨(some 16), none, (.ld false 1 (.t 15))⟩, ⟨(some 17), none, (.bin .geq (.t 14) (.t 16))⟩]) (.cond (.t 17) (.seq (.ops [⟨none, none, (.sto 1 (.t 7) (.c (.bool true)))⟩]) (.exit 0)) .skip)) (.ops [⟨(some 18), none, (.ld false 1 (.t 6))⟩, ⟨(some 19), none, (.ld true 29 (.t 8))⟩, ⟨(some 20), none, (.buildSl 41 29 1 [(.int .i64 0), (.str []), (.str []), (.int .i64 0), (.bool false), (.str []), (.int .i64 0), (.int .i64 0), .e0, .e0, (.str []), (.int .i64 0), (.int .i64 0), (.bool false), (.str []), .e0, .e0, .e0, .e0, (.int .i64 0), (.int .i64 0), (.int .i64 0), (.int .i64 0), (.int .i64 0), (.int .i64 0), (.int .i64 0), (.int .i64 0), (.str []), (.int .i64 0)] [(0, (.t 19))])⟩, ⟨(some 21), none, (.app 41 29 376 (.t 18) (.t 20))⟩, ⟨none, none, (.sto 1 (.t 6) (.t 21))⟩])))
theorem tr_y16 : trCodeF Try.prog [] (y16 (Try.f16.body.getD .skip)) = some (strip ac_y16) := by kernel_rfl
def ac_w16 : AC := (.seq (.draw (.q false ⟨(some 24), none, (.ld false 1 (.t 6))⟩ (.q false ⟨(some 25), none, (.ld false 1 (.t 7))⟩ (.q false ⟨(some 4), none, (.mv (.t 24))⟩ (.q false ⟨(some 5), none, (.mv (.t 25))⟩ .nil))))) .ret)
theorem tr_w16 : trCodeF Try.prog [] (w16 (Try.f16.body.getD .skip)) = some (strip ac_w16) := by kernel_rfl

theorem body16 : Try.f16.body = some (plug [p16a (Try.f16.body.getD .skip), p16b (Try.f16.body.getD .skip), p16c (Try.f16.body.getD .skip)] (.seq (.seq (q16 (Try.f16.body.getD .skip)) (.block 0 (.rangeFunc (.tmp 11) [12].toArray (a16 (Try.f16.body.getD .skip)) (y16 (Try.f16.body.getD .skip))))) (c16 (Try.f16.body.getD .skip)))) := by kernel_rfl
theorem preK_c (P : Program) (ac : AC) (l : List AC) (K : DS → Prop) (s : DS) : preK P (ac :: l) K s = dwp P ac s (aQ (preK P l K)) := rfl
theorem preK_n (P : Program) (K : DS → Prop) (s : DS) : preK P [] K s = K s := rfl
def E16 (f : Flt) (es : List Ev) : List DV := [.agg (encFl f), .sl 29 (es.map encEv), .ml 2 0, .any, .e0, .bool false, .ml 6 0, .ml 7 0, .any, .agg (encFl f), .sl 29 (es.map encEv), .fn 56 [.pf [.sl 29 (es.map encEv)], .pf (encFl f)]] ++ List.replicate 14 .any
def M16 (f : Flt) (o : List Ev) (b : Bool) : Mem := if o = [] then (if b = true then [(2, .box (encFl f)), (6, .box [.e0]), (7, .box [.bool true])] else [(7, .box [.bool false]), (6, .box [.e0]), (2, .box (encFl f))]) else [(2, .box (encFl f)), (6, .box [.ow 21]), (7, .box [.bool b]), (21, .vec 41 29 (o.map encEv))]
theorem M16_snoc (f : Flt) (o : List Ev) (e : Ev) (b : Bool) : M16 f (o ++ [e]) b = [(2, .box (encFl f)), (6, .box [.ow 21]), (7, .box [.bool b]), (21, .vec 41 29 ((o ++ [e]).map encEv))] := by simp [M16]
theorem M16_f (f : Flt) : M16 f [] false = [(7, .box [.bool false]), (6, .box [.e0]), (2, .box (encFl f))] := rfl
theorem M16_t (f : Flt) : M16 f [] true = [(2, .box (encFl f)), (6, .box [.e0]), (7, .box [.bool true])] := rfl
theorem M16_n (f : Flt) {o : List Ev} (h : ¬ o = []) (b : Bool) : M16 f o b = [(2, .box (encFl f)), (6, .box [.ow 21]), (7, .box [.bool b]), (21, .vec 41 29 (o.map encEv))] := by simp [M16, h]
def Post16 (f : Flt) (es : List Ev) (s : DS) : Prop := s = ⟨E16 f es, M16 f ((wantL f es).take f.limit.toNat) (decide (f.limit.toNat < (wantL f es).length))⟩
def I16 (f : Flt) (es : List Ev) (i : Nat) (m : Mem) : Prop := i ≤ f.limit.toNat ∧ i ≤ (wantL f es).length ∧ m = M16 f ((wantL f es).take i) false
def Ix16 (f : Flt) (es : List Ev) (id : Nat) (m : Mem) : Prop := id = 0 ∧ m = M16 f ((wantL f es).take f.limit.toNat) (decide (f.limit.toNat < (wantL f es).length))
theorem nQ16 {J : List Nat} {e0 : List DV} {f : Flt} {es : List Ev} {i : Nat} {Ix : Nat → Mem → Prop} {s : DS} : bQ J e0 (I16 f es i) Ix .normal s = (Jok J e0 s.env ∧ ∃ ks, I16 f es i (msort (mdels ks s.mem))) := rfl
theorem round16 (f : Flt) (es : List Ev) (hb : es.length ≤ 1000) (i : Nat) (e : Ev) (he : (wantL f es)[i]? = some e) (hi : i ≤ f.limit.toNat) :
    dwp Try.prog ac_a16 ⟨setPs (E16 f es) [12] [.agg (encEv e)], M16 f ((wantL f es).take i) false⟩ (aQ fun s1 => dwp Try.prog ac_y16 s1 (bQ [2, 6, 7] (E16 f es) (I16 f es (i + 1)) (Ix16 f es))) := by
  have hl := wantL_len f es
  have hil : i < (wantL f es).length := (List.getElem?_eq_some_iff.1 he).1
  have htk : (wantL f es).take (i + 1) = (wantL f es).take i ++ [e] := by rw [List.take_add_one, he]; rfl
  have htl : ((wantL f es).take i).length = i := by rw [List.length_take]; omega
  have hz2 : i + 1 ≤ maxLen := by simp only [maxLen]; omega
  have hz3 : (i + 1) * 376 ≤ 140737488355328 := by omega
  have hI : ∀ m, i + 1 ≤ f.limit.toNat → m = M16 f ((wantL f es).take i ++ [e]) false → I16 f es (i + 1) m := fun m h1 h2 => ⟨h1, by omega, by rw [htk]; exact h2⟩
  have hX : ∀ m, ¬ (i + 1 ≤ f.limit.toNat) → m = M16 f ((wantL f es).take i) true → Ix16 f es 0 m := fun m h1 h2 => by
    have : f.limit.toNat = i := by omega
    refine ⟨rfl, ?_⟩
    rw [this, decide_eq_true hil]
    exact h2
  clear htk he hil
  have hwl : List.length ((wantL f es).take i) = i := htl
  generalize (wantL f es).take i = o at *
  have hge : (f.limit ≤ (i : Int)) = ¬ (i + 1 ≤ f.limit.toNat) := by
    apply propext
    omega
  have hgi : ∀ l : List Ev, l = o → (l.length : Int) = (i : Int) := fun l h => by rw [h, htl]
  by_cases ho : o = []
  case pos =>
    subst ho
    obtain rfl : i = 0 := by simpa using htl.symm
    by_cases hc : 0 + 1 ≤ f.limit.toNat
    case pos =>
      have hc1 : ¬ (f.limit ≤ 0) := by omega
      unfold ac_a16 ac_y16
      iterate 14 (all_goals (try (first
        | (with_reducible refine ite_in (fun _ => ?_) (fun _ => ?_))
        | (with_reducible refine ⟨fun _ => ?_, fun _ => ?_⟩)
        | (with_reducible refine And.intro ?_ ?_)
        | (with_reducible intro _)
        | (with_reducible exact is_in _)
        | (simp -implicitDefEqProofs only [SD, SF, SL, e_nf, reduceCtorEq, implies_true, ↓reduceIte, Nat.reduceEqDiff, Nat.reduceAdd, Nat.reduceMul, Nat.reduceSub, Nat.reduceLeDiff, Nat.reduceLT, Int.reduceLT, Int.reduceLE, Int.reduceEq, Int.reduceToNat, Int.reduceAdd, Int.reduceSub, Int.reduceNeg, Int.reduceBEq, Int.reduceBNe, Nat.reduceBEq, Int.cast_ofNat_Int, decide_true, decide_false, ne_eq, eq_self_iff_true, beq_eq_false_iff_ne, bne_iff_ne, List.replicate, preK_c, preK_n, aQ_n, nQ16, bQ_x, setPs, encEv, encFl, E16, M16_f, hc1, hz2, hz3]))))
      · exact fun j hj => by simp at hj; rcases hj with rfl | rfl | rfl <;> rfl
      · exact ⟨[8, 20], hI _ hc (by rw [M16_snoc]; simp only [List.map_append, List.map, encEv, encFl]; rfl)⟩
    case neg =>
      have hc1 : f.limit ≤ 0 := by omega
      unfold ac_a16 ac_y16
      iterate 14 (all_goals (try (first
        | (with_reducible refine ite_in (fun _ => ?_) (fun _ => ?_))
        | (with_reducible refine ⟨fun _ => ?_, fun _ => ?_⟩)
        | (with_reducible refine And.intro ?_ ?_)
        | (with_reducible intro _)
        | (with_reducible exact is_in _)
        | (simp -implicitDefEqProofs only [SD, SF, SL, e_nf, reduceCtorEq, implies_true, ↓reduceIte, Nat.reduceEqDiff, Nat.reduceAdd, Nat.reduceMul, Nat.reduceSub, Nat.reduceLeDiff, Nat.reduceLT, Int.reduceLT, Int.reduceLE, Int.reduceEq, Int.reduceToNat, Int.reduceAdd, Int.reduceSub, Int.reduceNeg, Int.reduceBEq, Int.reduceBNe, Nat.reduceBEq, Int.cast_ofNat_Int, decide_true, decide_false, ne_eq, eq_self_iff_true, beq_eq_false_iff_ne, bne_iff_ne, List.replicate, preK_c, preK_n, aQ_n, nQ16, bQ_x, setPs, encEv, encFl, E16, M16_f, hc1, hz2, hz3]))))
      · exact fun j hj => by simp at hj; rcases hj with rfl | rfl | rfl <;> rfl
      · exact ⟨[8], hX _ hc (by simp only [M16_t, encEv, encFl, List.map]; rfl)⟩
  case neg =>
    by_cases hc : i + 1 ≤ f.limit.toNat
    case pos =>
      have hc1 : ¬ (f.limit ≤ (i : Int)) := by omega
      unfold ac_a16 ac_y16
      iterate 14 (all_goals (try (first
        | (with_reducible refine ite_in (fun _ => ?_) (fun _ => ?_))
        | (with_reducible refine ⟨fun _ => ?_, fun _ => ?_⟩)
        | (with_reducible refine And.intro ?_ ?_)
        | (with_reducible intro _)
        | (with_reducible exact is_in _)
        | (simp -implicitDefEqProofs only [SD, SF, SL, e_nf, reduceCtorEq, implies_true, ↓reduceIte, Nat.reduceEqDiff, Nat.reduceAdd, Nat.reduceMul, Nat.reduceSub, Nat.reduceLeDiff, Nat.reduceLT, Int.reduceLT, Int.reduceLE, Int.reduceEq, Int.reduceToNat, Int.reduceAdd, Int.reduceSub, Int.reduceNeg, Int.reduceBEq, Int.reduceBNe, Nat.reduceBEq, Int.cast_ofNat_Int, decide_true, decide_false, ne_eq, eq_self_iff_true, beq_eq_false_iff_ne, bne_iff_ne, List.replicate, preK_c, preK_n, aQ_n, nQ16, bQ_x, setPs, encEv, encFl, E16, M16_n f ho, List.length_map, hc1, hz2, hz3, htl]))))
      · exact fun j hj => by simp at hj; rcases hj with rfl | rfl | rfl <;> rfl
      · exact ⟨[8, 20], hI _ hc (by rw [M16_snoc]; simp only [List.map_append, List.map, encEv, encFl]; rfl)⟩
    case neg =>
      have hc1 : f.limit ≤ (i : Int) := by omega
      unfold ac_a16 ac_y16
      iterate 14 (all_goals (try (first
        | (with_reducible refine ite_in (fun _ => ?_) (fun _ => ?_))
        | (with_reducible refine ⟨fun _ => ?_, fun _ => ?_⟩)
        | (with_reducible refine And.intro ?_ ?_)
        | (with_reducible intro _)
        | (with_reducible exact is_in _)
        | (simp -implicitDefEqProofs only [SD, SF, SL, e_nf, reduceCtorEq, implies_true, ↓reduceIte, Nat.reduceEqDiff, Nat.reduceAdd, Nat.reduceMul, Nat.reduceSub, Nat.reduceLeDiff, Nat.reduceLT, Int.reduceLT, Int.reduceLE, Int.reduceEq, Int.reduceToNat, Int.reduceAdd, Int.reduceSub, Int.reduceNeg, Int.reduceBEq, Int.reduceBNe, Nat.reduceBEq, Int.cast_ofNat_Int, decide_true, decide_false, ne_eq, eq_self_iff_true, beq_eq_false_iff_ne, bne_iff_ne, List.replicate, preK_c, preK_n, aQ_n, nQ16, bQ_x, setPs, encEv, encFl, E16, M16_n f ho, List.length_map, hc1, hz2, hz3, htl]))))
      · exact fun j hj => by simp at hj; rcases hj with rfl | rfl | rfl <;> rfl
      · exact ⟨[8], hX _ hc (by simp only [M16_n f ho, encEv, encFl, List.map]; rfl)⟩

theorem walk16 (f : Flt) (es : List Ev) (hb : es.length ≤ 1000) : preK Try.prog [ac_p16a, ac_p16b, ac_p16c] (fun s1 => dwp Try.prog ac_q16 s1 (aQ (RngK Try.prog [2, 6, 7] [] [12] (.t 11) ac_a16 ac_y16 0 (Post16 f es)))) ⟨argE 0 [.fz (.agg (encFl f)), .fz (.sl 29 (es.map encEv))] ++ List.replicate 24 .any, argM 0 [.fz (.agg (encFl f)), .fz (.sl 29 (es.map encEv))]⟩ := by
  have hl := wantL_len f es
  have hr := round16 f es hb
  have hit := iter56 f es hb
  unfold ac_p16a ac_p16b ac_p16c ac_q16
  iterate 12 (all_goals (try (first
    | ((with_reducible refine of_kSpec ?_); refine call_fz (spec37 f es) rfl ?_)
    | (with_reducible refine ite_in (fun _ => ?_) (fun _ => ?_))
    | (with_reducible refine ⟨fun _ => ?_, fun _ => ?_⟩)
    | (with_reducible refine And.intro ?_ ?_)
    | (with_reducible intro _)
    | (with_reducible exact is_in _)
    | (simp -implicitDefEqProofs only [SD, SF, SL, e_nf, reduceCtorEq, implies_true, ↓reduceIte, Nat.reduceEqDiff, Nat.reduceAdd, Nat.reduceMul, Nat.reduceSub, Nat.reduceLeDiff, Nat.reduceLT, Int.reduceLT, Int.reduceLE, Int.reduceEq, Int.reduceToNat, Int.reduceAdd, Int.reduceSub, Int.reduceNeg, Int.reduceBEq, Int.reduceBNe, Nat.reduceBEq, Int.cast_ofNat_Int, decide_true, decide_false, ne_eq, eq_self_iff_true, beq_eq_false_iff_ne, bne_iff_ne, List.replicate, preK_c, preK_n, aQ_n, encFl, hb]))))
  refine ⟨56, _, ysW f es, I16 f es, Ix16 f es, rfl, hit, ?_, rfl, ⟨Nat.zero_le _, Nat.zero_le _, ?_⟩, ?_, ?_, ?_⟩
  · intro y hy
    rw [ysW_wantL] at hy
    simp only [List.mem_map] at hy
    obtain ⟨e, _, rfl⟩ := hy
    rfl
  · rw [List.take_zero]
    rfl
  · rintro i m y hy ⟨h1, h2, rfl⟩
    rw [ysW_wantL, List.getElem?_map] at hy
    cases he : (wantL f es)[i]? with
    | none => rw [he] at hy; cases hy
    | some e =>
      rw [he] at hy
      cases hy
      exact hr i e he h1
  · rintro m ⟨h1, h2, rfl⟩
    rw [ysW_wantL, List.length_map] at h1
    rw [ysW_wantL, List.length_map, List.take_length]
    have e1 : (wantL f es).take f.limit.toNat = wantL f es := List.take_of_length_le h1
    have e2 : decide (f.limit.toNat < (wantL f es).length) = false := by simpa using h1
    unfold Post16
    rw [e1, e2]
    rfl
  · rintro id m ⟨rfl, rfl⟩
    exact ⟨rfl, rfl⟩

end Go.Proofs.Ytamcbdflmephdaa.E

set_option linter.unusedSimpArgs false
set_option linter.unusedVariables false
set_option maxRecDepth 100000
set_option maxHeartbeats 2000000
namespace Go.Proofs.Ytamcbdflmephdaa.E
open Go
theorem ops_step {F : Fence} {n : Nat} {P : Program} {ops : Array Oper} {Q : Exit → Act → World → Prop} {i : Nat} {rest : List Nat} {a : Act} {w : World} {o : Oper} (ho : ops[i]? = some o) (hg : o.guard = none) (h : o.wpIn F n P a w (wpOpsIn F n P ops Q rest) Q) : wpOpsIn F n P ops Q (i :: rest) a w := by
  unfold wpOpsIn
  simp only [ho]
  rw [if_pos (by simp [Region.wanted, hg])]
  exact h
theorem v16_eq : v16 (Try.f16.body.getD .skip) = .region 8 (rgO (v16 (Try.f16.body.getD .skip))) false := by kernel_rfl
def o16a : Oper := ⟨some 22, .load 43 (.tmp 6), 43, "filter.go:84", #[], none⟩
def o16b : Oper := ⟨some 23, .call { callee := .value (.func 38), args := #[.tmp 22], argTypes := #[43] }, 0, "filter.go:84", #[⟨0, .data⟩], none⟩
theorem V16a : (rgO (v16 (Try.f16.body.getD .skip)))[0]? = some o16a := by kernel_rfl
theorem V16b : (rgO (v16 (Try.f16.body.getD .skip)))[1]? = some o16b := by kernel_rfl
theorem s16 : (rgO (v16 (Try.f16.body.getD .skip))).size = 2 := by kernel_rfl
theorem c16_eq : c16 (Try.f16.body.getD .skip) = .seq (v16 (Try.f16.body.getD .skip)) (w16 (Try.f16.body.getD .skip)) := by kernel_rfl
theorem callable38 : callable Try.prog 38 = true := by kernel_rfl
theorem call38 {a : Act} {w : World} {F : Frz} {v : Value} {es : List Ev} {N : Nat → Prop} (hf : ∀ b o, F b o → b < w.heap.size) (hx : a.eval (.tmp 22) = v) (hb : es.length ≤ 1000) (hv : VecOK F w N 41 29 (es.map encEv) v) {K : Act → World → Prop} {Q : Exit → Act → World → Prop}
    (hK : ∀ F' w' u, Grow (fun b => hblk v = some b) F w F' w' → VecOK F' w' (Nw (fun b => hblk v = some b) w) 41 29 (es.reverse.map encEv) v → K (a.put (some 23) u) w') : o16b.wp Try.prog a w K Q := by
  unfold Oper.wp
  rw [run_call (o := o16b) rfl rfl callable38]
  have : (#[Operand.tmp 22].map a.eval ++ #[] : Array Value) = #[v] := by simp [hx]
  rw [this]
  refine Calls.mono (rev38 hf hb hv) ?_
  rintro e w' ⟨⟨u, rfl⟩, F', hg, hx'⟩
  exact hK F' w' u hg hx'
def EZ (f : Flt) (es : List Ev) (h : DV) : List DV := stp (stp (E16 f es) 22 h) 23 .any
def PostR (f : Flt) (es : List Ev) (s : DS) : Prop :=
  ((wantL f es).take f.limit.toNat = [] ∧ s = ⟨EZ f es .e0, M16 f [] (decide (f.limit.toNat < (wantL f es).length))⟩) ∨
  (¬ (wantL f es).take f.limit.toNat = [] ∧ s = ⟨EZ f es (.ow 21), M16 f ((wantL f es).take f.limit.toNat).reverse (decide (f.limit.toNat < (wantL f es).length))⟩)
section
variable {O : Nat → Prop} {F0 : Frz} {w0 : World} {n : Nat}
theorem rev16 {f : Flt} {es : List Ev} {a : Act} {w : World} {R : Exit → Act → World → Prop} (hb : es.length ≤ 1000) (hg : Rg O F0 w0 (Post16 f es) a w) (hR : ∀ a' w', Rg O F0 w0 (PostR f es) a' w' → R .normal a' w') :
    (v16 (Try.f16.body.getD .skip)).wpIn Fence.wide n Try.prog R a w := by
  obtain ⟨s, M, F, D, hi, rfl, hd, hD⟩ := hg
  rw [v16_eq]
  refine wpIn_region ?_
  rw [s16]
  show wpOpsIn (Gf none) n Try.prog _ R [0, 1] a w
  have hTl : ((wantL f es).take f.limit.toNat).length ≤ 1000 := by
    have := wantL_len f es
    rw [List.length_take]
    omega
  generalize hT : (wantL f es).take f.limit.toNat = T at *
  generalize hB : decide (f.limit.toNat < (wantL f es).length) = b at *
  by_cases h0 : T = []
  · have hmm : M16 f T b = M16 f [] b := by rw [h0]
    rw [hmm] at hi
    refine ops_step V16a rfl (Oper.wpIn_mono (fun a1 w1 hf => ?_) (opIn_of_wp (J := []) (pre := []) (t0 := a.tmps) (ds := [mark D]) rfl hd (fun j hj => by simp at hj) (sound_ld (s := ⟨E16 f es, M16 f [] b⟩) (K := fun s => s = ⟨stp (E16 f es) 22 .e0, M16 f [] b⟩) (ap := .t 6) hi.rebase rfl Try.underlying43 (n := 1) (by kernel_rfl) rfl rfl (by cases b <;> exact rfl))))
    obtain ⟨pre, hd1, _, s1, M1, F1, hi1, rfl⟩ := hf
    obtain rfl : pre = [] := hi1.dl
    have hd1 : a1.defers = [mark D] := hd1
    have hD1 := hD.step hi hi1
    replace hi1 := unbase hi hi1
    obtain ⟨v, e22, q22⟩ := slot_of hi1 (i := 22) (d := .e0) rfl
    have q22 := (RV_fz (d := .e0) rfl).1 q22
    rw [RF] at q22
    obtain ⟨A, rfl⟩ := q22
    have hi1r := hi1.rebase
    refine ops_step V16b rfl (Oper.wpIn_mono (fun a2 w2 hf => ?_) (opIn_of_wp (J := []) (pre := []) (t0 := a1.tmps) (ds := [mark D]) (K := fun a2 w2 => ∃ F2, Inv (Own M1 (M16 f [] b)) F1 w1 M1 F2 (EZ f es .e0) (M16 f [] b) a2 w2) rfl hd1 (fun j hj => by simp at hj)
      (call38 (a := less [] a1) (es := []) (N := fun _ => True) hi1.grow.fwf (ev_tmp e22) (by simp) ⟨by simp, .inl ⟨rfl, A, rfl⟩⟩ fun F2 w2 u hg hx => ⟨F2, (hi1r.after hg (fun b' o h => by cases A <;> simp [hblk] at h) (fun _ _ _ b' _ _ _ h => by cases A <;> simp [hblk] at h) (fun b' h => by cases A <;> simp [hblk] at h)).put 23 (RV_RVc RVc_any)⟩)))
    obtain ⟨pre, hd2, _, F2, hi2⟩ := hf
    obtain rfl : pre = [] := hi2.dl
    exact hR _ _ ⟨_, M1, F2, D, unbase hi1 hi2, .inl ⟨hT.trans h0, by rw [hB]⟩, hd2, hD1.step hi1 hi2⟩
  · have hm : ∀ X : List Ev, ¬ X = [] → mget (M16 f X b) 6 = some (.box [.ow 21]) ∧ mget (M16 f X b) 21 = some (.vec 41 29 (X.map encEv)) := fun X hX => by rw [M16_n f hX]; exact ⟨rfl, rfl⟩
    have hr0 : ¬ T.reverse = [] := by simpa using h0
    refine ops_step V16a rfl (Oper.wpIn_mono (fun a1 w1 hf => ?_) (opIn_of_wp (J := []) (pre := []) (t0 := a.tmps) (ds := [mark D]) rfl hd (fun j hj => by simp at hj) (sound_ld (s := ⟨E16 f es, M16 f T b⟩) (K := fun s => s = ⟨stp (E16 f es) 22 (.ow 21), M16 f T b⟩) (ap := .t 6) hi.rebase rfl Try.underlying43 (n := 1) (by kernel_rfl) rfl rfl ?_)))
    rotate_left
    · show kLd false 1 (.ml 6 0) (M16 f T b) _
      rw [e_ldm, (hm T h0).1]
      exact rfl
    obtain ⟨pre, hd1, _, s1, M1, F1, hi1, rfl⟩ := hf
    obtain rfl : pre = [] := hi1.dl
    have hd1 : a1.defers = [mark D] := hd1
    have hD1 := hD.step hi hi1
    replace hi1 := unbase hi hi1
    obtain ⟨v, e22, q22⟩ := slot_of hi1 (i := 22) (d := .ow 21) rfl
    obtain ⟨v', g1, g2⟩ := hi1.mm 21 _ (hm T h0).2
    obtain ⟨q22, _⟩ := q22
    rw [g1] at q22
    cases q22
    have hi1r := hi1.rebase
    refine ops_step V16b rfl (Oper.wpIn_mono (fun a2 w2 hf => ?_) (opIn_of_wp (J := []) (pre := []) (t0 := a1.tmps) (ds := [mark D]) (K := fun a2 w2 => ∃ F2, Inv (Own M1 (M16 f T b)) F1 w1 M1 F2 (EZ f es (.ow 21)) (M16 f T.reverse b) a2 w2) rfl hd1 (fun j hj => by simp at hj)
      (call38 (a := less [] a1) (es := T) hi1.grow.fwf (ev_tmp e22) hTl g2 fun F2 w2 u hg hx => ⟨F2, (inv_inplace hi1r (hm T h0).2 g1 hg hx (mem' := M16 f T.reverse b) ?_).put 23 (RV_RVc RVc_any)⟩)))
    rotate_left
    · intro j
      rw [M16_n f h0, M16_n f hr0]
      by_cases hj : j = 21
      · subst hj
        rfl
      · rw [if_neg hj]
        have hj' : ¬ (21 = j) := fun e => hj e.symm
        simp only [mget, hj', if_false]
    obtain ⟨pre, hd2, _, F2, hi2⟩ := hf
    obtain rfl : pre = [] := hi2.dl
    exact hR _ _ ⟨_, M1, F2, D, unbase hi1 hi2, .inr ⟨by rw [hT]; exact h0, by rw [hB, hT]⟩, hd2, hD1.step hi1 hi2⟩
end
end Go.Proofs.Ytamcbdflmephdaa.E

namespace Go.Proofs.Ytamcbdflmephdaa.E
open Go
set_option maxHeartbeats 4000000
set_option maxRecDepth 100000
set_option linter.unusedSimpArgs false
set_option linter.unusedVariables false
attribute [local congr] c_wp c_ops c_op c_opS c_run c_runS c_dt c_seq c_blk c_loop c_S c_put c_bind c_mv c_pick c_nt c_ng c_bin c_binI c_binS c_beq c_B c_eqa c_hd c_cells c_blkK c_box c_vec c_mp c_nck c_mks c_appn c_mkm c_mput c_mlk c_mrm c_take c_ld c_ldF c_cellsK c_st c_fld c_fldv c_ix c_ixp c_ixv c_ixs c_sub c_subs c_len c_lens c_src c_dst c_ow c_app c_ext c_mm c_conv c_str c_isn c_fill c_rows c_boxo c_frz c_frzO c_frzA c_frzV c_spec c_specO c_opsP c_opP c_runP c_specP c_Z c_qretP c_fz c_fn c_gv c_cond c_res1 c_resL c_ret c_qret c_ite c_unr c_nx c_bk c_cut c_is
attribute [local irreducible] dwp

theorem tr16r : trRes Try.prog Try.f16.results.toList = some [(.t 4), (.t 5)] := by kernel_rfl
theorem walkW0 (f : Flt) (es : List Ev) (b : Bool) : dwp Try.prog ac_w16 ⟨EZ f es .e0, M16 f [] b⟩ (Qret [(.t 4), (.t 5)] (.fz (.tup [.sl 29 [], .bool b]))) := by
  unfold ac_w16 EZ E16
  cases b
  case true =>
    iterate 14 (all_goals (try (first
      | (with_reducible refine ite_in (fun _ => ?_) (fun _ => ?_))
      | (with_reducible refine ⟨fun _ => ?_, fun _ => ?_⟩)
      | (with_reducible refine And.intro ?_ ?_)
      | (with_reducible intro _)
      | (with_reducible exact is_in _)
      | (simp -implicitDefEqProofs only [SD, SF, SL, e_nf, reduceCtorEq, implies_true, ↓reduceIte, Nat.reduceEqDiff, Nat.reduceAdd, Nat.reduceMul, Nat.reduceSub, Nat.reduceLeDiff, Nat.reduceLT, Int.reduceLT, Int.reduceLE, Int.reduceEq, Int.reduceToNat, Int.reduceAdd, Int.reduceSub, Int.reduceNeg, Int.reduceBEq, Int.reduceBNe, Nat.reduceBEq, Int.cast_ofNat_Int, decide_true, decide_false, ne_eq, eq_self_iff_true, beq_eq_false_iff_ne, bne_iff_ne, List.replicate, preK_c, preK_n, aQ_n, encEv, encFl, E16, EZ, M16_t, *]))))
  case false =>
    iterate 14 (all_goals (try (first
      | (with_reducible refine ite_in (fun _ => ?_) (fun _ => ?_))
      | (with_reducible refine ⟨fun _ => ?_, fun _ => ?_⟩)
      | (with_reducible refine And.intro ?_ ?_)
      | (with_reducible intro _)
      | (with_reducible exact is_in _)
      | (simp -implicitDefEqProofs only [SD, SF, SL, e_nf, reduceCtorEq, implies_true, ↓reduceIte, Nat.reduceEqDiff, Nat.reduceAdd, Nat.reduceMul, Nat.reduceSub, Nat.reduceLeDiff, Nat.reduceLT, Int.reduceLT, Int.reduceLE, Int.reduceEq, Int.reduceToNat, Int.reduceAdd, Int.reduceSub, Int.reduceNeg, Int.reduceBEq, Int.reduceBNe, Nat.reduceBEq, Int.cast_ofNat_Int, decide_true, decide_false, ne_eq, eq_self_iff_true, beq_eq_false_iff_ne, bne_iff_ne, List.replicate, preK_c, preK_n, aQ_n, encEv, encFl, E16, EZ, M16_f, *]))))
theorem walkW1 (f : Flt) (es o : List Ev) (b : Bool) (ho : ¬ o = []) : dwp Try.prog ac_w16 ⟨EZ f es (.ow 21), M16 f o b⟩ (Qret [(.t 4), (.t 5)] (.fz (.tup [.sl 29 (o.map encEv), .bool b]))) := by
  unfold ac_w16 EZ E16
  iterate 14 (all_goals (try (first
    | (with_reducible refine ite_in (fun _ => ?_) (fun _ => ?_))
    | (with_reducible refine ⟨fun _ => ?_, fun _ => ?_⟩)
    | (with_reducible refine And.intro ?_ ?_)
    | (with_reducible intro _)
    | (with_reducible exact is_in _)
    | (simp -implicitDefEqProofs only [SD, SF, SL, e_nf, reduceCtorEq, implies_true, ↓reduceIte, Nat.reduceEqDiff, Nat.reduceAdd, Nat.reduceMul, Nat.reduceSub, Nat.reduceLeDiff, Nat.reduceLT, Int.reduceLT, Int.reduceLE, Int.reduceEq, Int.reduceToNat, Int.reduceAdd, Int.reduceSub, Int.reduceNeg, Int.reduceBEq, Int.reduceBNe, Nat.reduceBEq, Int.cast_ofNat_Int, decide_true, decide_false, ne_eq, eq_self_iff_true, beq_eq_false_iff_ne, bne_iff_ne, List.replicate, preK_c, preK_n, aQ_n, encEv, encFl, E16, EZ, M16_n f ho, *]))))
theorem cutL_0 {f : Flt} {es : List Ev} (h : (wantL f es).take f.limit.toNat = []) : (cutL f es).1.map encEv = [] := by
  unfold cutL
  rw [h]
  rfl
theorem noW16 : noDp ac_w16 = true := by kernel_rfl
theorem calmW16 : calmCode [] (w16 (Try.f16.body.getD .skip)) = true := by kernel_rfl
theorem spec16 (f : Flt) (es : List Ev) (hb : es.length ≤ 1000) : Spec Try.prog 16 [.fz (.agg (encFl f)), .fz (.sl 29 (es.map encEv))] (.fz (.tup [.sl 29 ((cutL f es).1.map encEv), .bool (cutL f es).2])) := by
  refine ⟨by kernel_rfl, fun F w vs hfwf hargs hdis => ?_⟩
  obtain ⟨M, hi⟩ := @entry_ok Try.f16 [.fz (.agg (encFl f)), .fz (.sl 29 (es.map encEv))] 24 (show Try.f16.ntmps = 24 + 2 by kernel_rfl) _ _ _ hfwf hargs hdis
  refine (callsIn_wide (n := 1)).1 (callsIn_of_wp_marks Try.func16 body16 trivial (rng_body (J := [2, 6, 7]) (ts := []) (ps := [12]) (pres := [(p16a (Try.f16.body.getD .skip), ac_p16a), (p16b (Try.f16.body.getD .skip), ac_p16b), (p16c (Try.f16.body.getD .skip), ac_p16c)]) (bid := 0) (Post := Post16 f es) hi ?_ tr_q16 rfl tr_a16 tr_y16 (by kernel_rfl) (by kernel_rfl) rfl rfl rfl (walk16 f es hb) ?_) rfl)
  · intro p hp
    simp only [List.mem_cons, List.not_mem_nil, or_false] at hp
    rcases hp with rfl | rfl | rfl
    · exact tr_p16a
    · exact tr_p16b
    · exact tr_p16c
  · intro a' w' hg
    rw [c16_eq]
    refine wpIn_seq (rev16 hb hg fun a2 w2 hg2 => ?_)
    refine rg_cont hg2 noW16 tr_w16 calmW16 (Q := Qret [(.t 4), (.t 5)] (.fz (.tup [.sl 29 ((cutL f es).1.map encEv), .bool (cutL f es).2]))) ?_ ?_ ?_ ?_ qret_pan
    · rintro s (⟨h, rfl⟩ | ⟨h, rfl⟩)
      · rw [cutL_0 h]
        exact walkW0 f es _
      · exact walkW1 f es _ _ (by simpa using h)
    · intro a w h
      exact rg_leave h tr16r fun w' v' F' h1 h2 => ⟨v', F', rfl, h1, h2⟩
    · intro a w h
      exact rg_leave h tr16r fun w' v' F' h1 h2 => ⟨v', F', rfl, h1, h2⟩
    · rintro id a w ⟨_, _, _, _, _, h, _⟩
      exact h.elim

end Go.Proofs.Ytamcbdflmephdaa.E
