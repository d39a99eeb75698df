/-
  RbK: walks of functions of the program at data level.
-/
import Derived.Test.YthackanfbemabaaProg
import Derived.Test.YthackanfbemabaaEngZ
import Derived.Test.YthackanfbemabaaRbJ
import Derived.KernelRfl
set_option linter.unusedVariables false
set_option linter.unusedSimpArgs false
namespace Go.Proofs.Ythackanfbemabaa.E
open Go
set_option maxHeartbeats 4000000
set_option maxRecDepth 100000
set_option linter.unusedSimpArgs false
set_option linter.unusedVariables false
attribute [local congr] c_wp c_ops c_op c_opS c_run c_runS c_dt c_seq c_blk c_loop c_S c_put c_bind c_mv c_pick c_nt c_ng c_bin c_binI c_binS c_beq c_B c_eqa c_hd c_cells c_blkK c_box c_vec c_take c_ld c_ldF c_cellsK c_st c_fld c_fldv c_ix c_ixp c_ixv c_ixs c_sub c_subs c_len c_lens c_src c_dst c_ow c_app c_ext c_mm c_conv c_str c_isn c_fill c_rows c_boxo c_frz c_frzO c_frzA c_frzV c_spec c_specO c_fz c_fn c_gv c_cond c_res1 c_resL c_ret c_qret c_ite c_unr c_nx c_bk c_cut c_is
attribute [local irreducible] dwp

theorem userL_mem {l : List LU} {x : LU} {d : Int} (hp : l.Pairwise fun a b => a.user ≠ b.user) (hx : x ∈ l) : userL l x.user d = x.n := by
  induction l with
  | nil => simp at hx
  | cons y l ih =>
    rw [List.pairwise_cons] at hp
    unfold userL
    rcases List.mem_cons.1 hx with rfl | h
    · simp
    · rw [if_neg (hp.1 x h)]
      exact ih hp.2 h
theorem userL_none {l : List LU} {u : List UInt8} {d : Int} (h : ∀ x ∈ l, x.user ≠ u) : userL l u d = d := by
  induction l with
  | nil => rfl
  | cons y l ih =>
    unfold userL
    rw [if_neg (h y (by simp))]
    exact ih fun x hx => h x (by simp [hx])
theorem userL_rev {l : List LU} {u : List UInt8} {d : Int} (hp : l.Pairwise fun a b => a.user ≠ b.user) : userL l.reverse u d = userL l u d := by
  have hr : l.reverse.Pairwise fun a b => a.user ≠ b.user := by
    rw [List.pairwise_reverse]
    exact hp.imp fun h => h.symm
  by_cases h : ∃ x ∈ l, x.user = u
  · obtain ⟨x, hx, rfl⟩ := h
    rw [userL_mem hp hx, userL_mem hr (by simpa using hx)]
  · have hn : ∀ x ∈ l, x.user ≠ u := fun x hx e => h ⟨x, hx, e⟩
    rw [userL_none hn, userL_none (by simpa using hn)]
theorem needsL_mem {l : List LK} {x : LK} {d : Int} (hp : l.Pairwise fun a b => a.kind ≠ b.kind) (hx : x ∈ l) : needsL l x.kind d = x.n := by
  induction l with
  | nil => simp at hx
  | cons y l ih =>
    rw [List.pairwise_cons] at hp
    unfold needsL
    rcases List.mem_cons.1 hx with rfl | h
    · simp
    · rw [if_neg (hp.1 x h)]
      exact ih hp.2 h
theorem needsL_none {l : List LK} {u : Int} {d : Int} (h : ∀ x ∈ l, x.kind ≠ u) : needsL l u d = d := by
  induction l with
  | nil => rfl
  | cons y l ih =>
    unfold needsL
    rw [if_neg (h y (by simp))]
    exact ih fun x hx => h x (by simp [hx])
theorem needsL_rev {l : List LK} {u : Int} {d : Int} (hp : l.Pairwise fun a b => a.kind ≠ b.kind) : needsL l.reverse u d = needsL l u d := by
  have hr : l.reverse.Pairwise fun a b => a.kind ≠ b.kind := by
    rw [List.pairwise_reverse]
    exact hp.imp fun h => h.symm
  by_cases h : ∃ x ∈ l, x.kind = u
  · obtain ⟨x, hx, rfl⟩ := h
    rw [needsL_mem hp hx, needsL_mem hr (by simpa using hx)]
  · have hn : ∀ x ∈ l, x.kind ≠ u := fun x hx e => h ⟨x, hx, e⟩
    rw [needsL_none hn, needsL_none (by simpa using hn)]
def turn (v : Lv) : Lv := ⟨v.users.reverse, v.kinds.reverse, v.a2, v.a3, v.a4, v.a5, v.a6, v.a7, v.a8⟩
section
variable {v : Lv}
theorem turn_user (hu : v.users.Pairwise fun a b => a.user ≠ b.user) (u : List UInt8) : userV (turn v) u = userV v u := userL_rev hu
theorem turn_needs (hk : v.kinds.Pairwise fun a b => a.kind ≠ b.kind) (k : Int) : needs (turn v) k = needs v k := needsL_rev hk
theorem turn_chg (hu : v.users.Pairwise fun a b => a.user ≠ b.user) (hk : v.kinds.Pairwise fun a b => a.kind ≠ b.kind) (w : Lv) (u : List UInt8) : chgR (turn v) w u = chgR v w u := by
  have h1 : okNs (turn v) w u = okNs v w u := by
    simp only [okNs, turn_user hu]
    rfl
  have h2 : okK (turn v) w u = okK v w u := by
    funext x
    simp only [okK, turn_user hu, turn_needs hk]
  have h3 : okX (turn v) w u = okX v w u := by
    funext x
    simp only [okX, okU, turn_user hu]
  unfold chgR
  rw [h1, h2, h3]
  simp only [List.all_append, turn, List.all_reverse]
theorem turn_self (hu : v.users.Pairwise fun a b => a.user ≠ b.user) (hk : v.kinds.Pairwise fun a b => a.kind ≠ b.kind) (u : List UInt8) : chgR v (turn v) u = 0 :=
  chgR_ok (by simp [okNs, okN_self, turn]) (by simp [okK, okN_self, turn_needs hk]) (by simp [okK, okN_self, turn_needs hk]) (by simp [okX, okU, okN_self, turn_user hu]) (by simp [okX, okU, okN_self, turn_user hu])
end

theorem loop_r {P : Program} {Q : AE → DS → Prop} {X : Type} {c : AC} {E : List DV} {M : Mem} (R : Nat → X → Prop) (pe : X → List (Nat × DV)) (pm : X → List (Nat × Blk)) (ts0 ks ks0 : List Nat) (n0 : Nat) (x0 : X) (hR : R n0 x0)
    (h0 : forget ts0 ks0 ⟨E, M⟩ = ⟨pE (pe x0) (forgetE ts0 E), pM (pm x0) (msort (mdels ks M))⟩)
    (hr : ∀ n x, R n x → dwp P c ⟨pE (pe x) (forgetE ts0 E), pM (pm x) (msort (mdels ks M))⟩
      (kLoop (kBk R (fun x => ⟨pE (pe x) (forgetE ts0 E), pM (pm x) (msort (mdels ks M))⟩) n) Q)) : dwp P (.loop c) ⟨E, M⟩ Q := by
  unfold dwp
  refine ⟨fun n s => ∃ x, R n x ∧ s = ⟨pE (pe x) (forgetE ts0 E), pM (pm x) (msort (mdels ks M))⟩, n0, ts0, ks0, ⟨x0, hR, h0⟩, ?_⟩
  rintro n s ⟨x, hx, rfl⟩
  exact hr n x hx
def ac13 : AC := (.seq (.ops [⟨(some 3), none, (.box (.t 0))⟩, ⟨(some 4), none, (.box (.t 1))⟩, ⟨(some 6), none, (.mv (.c (.bool false)))⟩]) (.seq (.seq (.ops [⟨(some 12), none, (.fld 0 (.t 3))⟩, ⟨(some 13), none, (.ld false 1 (.t 12))⟩, ⟨(some 14), none, (.len (.t 13))⟩, ⟨(some 15), none, (.bin .gtr (.t 14) (.c (.int .i64 12)))⟩, ⟨(some 16), none, (.mv (.t 15))⟩, ⟨(some 17), (some (16, false)), (.fld 1 (.t 3))⟩, ⟨(some 18), (some (16, false)), (.ld false 1 (.t 17))⟩, ⟨(some 19), (some (16, false)), (.len (.t 18))⟩, ⟨(some 20), (some (16, false)), (.bin .gtr (.t 19) (.c (.int .i64 12)))⟩, ⟨(some 21), none, (.pick (.t 16) (.c (.bool true)) (.t 20))⟩, ⟨(some 22), none, (.mv (.t 21))⟩, ⟨(some 23), (some (22, false)), (.ld true 9 (.t 4))⟩, ⟨(some 24), (some (22, false)), (.call false 24 [(.t 23)])⟩, ⟨(some 25), none, (.pick (.t 22) (.c (.bool true)) (.t 24))⟩]) (.cond (.t 25) (.seq (.ops [⟨(some 26), none, (.call false 25 [])⟩, ⟨(some 6), none, (.mv (.t 26))⟩]) .ret) .skip)) (.seq (.ops [⟨(some 27), none, (.ld true 9 (.t 3))⟩, ⟨(some 7), none, (.alloc [.e0, .e0, (.int .i64 0), (.int .i64 0), (.int .i64 0), (.int .i64 0), (.int .i64 0), (.int .i64 0), (.int .i64 0)])⟩, ⟨none, none, (.sto 9 (.t 7) (.t 27))⟩]) (.seq (.ops [⟨(some 28), none, (.fld 0 (.t 7))⟩, ⟨none, none, (.sto 1 (.t 28) (.c .e0))⟩]) (.seq (.ops [⟨(some 29), none, (.fld 1 (.t 7))⟩, ⟨none, none, (.sto 1 (.t 29) (.c .e0))⟩]) (.seq (.seq (.ops [⟨(some 30), none, (.fld 0 (.t 3))⟩, ⟨(some 31), none, (.ld false 1 (.t 30))⟩, ⟨(some 32), none, (.len (.t 31))⟩, ⟨(some 33), none, (.bin .sub (.t 32) (.c (.int .i64 1)))⟩, ⟨(some 8), none, (.mv (.t 33))⟩]) (.block 0 (.loop (.seq (.seq (.ops [⟨(some 34), none, (.mv (.t 8))⟩, ⟨(some 35), none, (.bin .geq (.t 34) (.c (.int .i64 0)))⟩]) (.cond (.t 35) .skip (.exit 0))) (.seq (.block 1 (.seq (.seq (.ops [⟨(some 9), none, (.mv (.c (.int .i64 0)))⟩]) (.block 2 (.loop (.seq (.seq (.ops [⟨(some 38), none, (.mv (.t 9))⟩, ⟨(some 39), none, (.mv (.t 8))⟩, ⟨(some 40), none, (.bin .lss (.t 38) (.t 39))⟩]) (.cond (.t 40) .skip (.exit 2))) (.seq (.block 3 (.seq (.draw (.q false ⟨(some 43), none, (.fld 0 (.t 3))⟩ (.q false ⟨(some 44), none, (.ld false 1 (.t 43))⟩ (.q false ⟨(some 45), none, (.mv (.t 9))⟩ (.q false ⟨(some 46), none, (.ix 2 (.t 44) (.t 45))⟩ (.q false ⟨(some 47), none, (.fld 0 (.t 46))⟩ (.q false ⟨(some 48), none, (.ld false 1 (.t 47))⟩ (.q false ⟨(some 49), none, (.fld 0 (.t 3))⟩ (.q false ⟨(some 50), none, (.ld false 1 (.t 49))⟩ (.q false ⟨(some 51), none, (.mv (.t 8))⟩ (.q false ⟨(some 52), none, (.ix 2 (.t 50) (.t 51))⟩ (.q false ⟨(some 53), none, (.fld 0 (.t 52))⟩ (.q false ⟨(some 54), none, (.ld false 1 (.t 53))⟩ (.q false ⟨(some 55), none, (.bin .eql (.t 48) (.t 54))⟩ .nil)))))))))))))) (.cond (.t 55) (.seq (.ops [⟨(some 56), none, (.call false 25 [])⟩, ⟨(some 6), none, (.mv (.t 56))⟩]) .ret) .skip))) (.ops [⟨(some 41), none, (.mv (.t 9))⟩, ⟨(some 42), none, (.bin .add (.t 41) (.c (.int .i64 1)))⟩, ⟨(some 9), none, (.mv (.t 42))⟩])))))) (.draw (.q false ⟨(some 57), none, (.fld 0 (.t 7))⟩ (.q false ⟨(some 58), none, (.ld false 1 (.t 57))⟩ (.q false ⟨(some 59), none, (.fld 0 (.t 3))⟩ (.q false ⟨(some 60), none, (.ld false 1 (.t 59))⟩ (.q false ⟨(some 61), none, (.mv (.t 8))⟩ (.q false ⟨(some 62), none, (.ix 2 (.t 60) (.t 61))⟩ (.q false ⟨(some 63), none, (.ld true 2 (.t 62))⟩ (.op ⟨(some 64), none, (.buildSl 58 2 1 [(.str []), (.int .i64 0)] [(0, (.t 63))])⟩ (.op ⟨(some 65), none, (.app 58 2 24 (.t 58) (.t 64))⟩ (.q false ⟨(some 66), none, (.fld 0 (.t 7))⟩ (.op ⟨none, none, (.sto 1 (.t 66) (.t 65))⟩ .nil)))))))))))))) (.ops [⟨(some 36), none, (.mv (.t 8))⟩, ⟨(some 37), none, (.bin .sub (.t 36) (.c (.int .i64 1)))⟩, ⟨(some 8), none, (.mv (.t 37))⟩])))))) (.seq (.seq (.ops [⟨(some 67), none, (.fld 1 (.t 3))⟩, ⟨(some 68), none, (.ld false 1 (.t 67))⟩, ⟨(some 69), none, (.len (.t 68))⟩, ⟨(some 70), none, (.bin .sub (.t 69) (.c (.int .i64 1)))⟩, ⟨(some 10), none, (.mv (.t 70))⟩]) (.block 4 (.loop (.seq (.seq (.ops [⟨(some 71), none, (.mv (.t 10))⟩, ⟨(some 72), none, (.bin .geq (.t 71) (.c (.int .i64 0)))⟩]) (.cond (.t 72) .skip (.exit 4))) (.seq (.block 5 (.seq (.seq (.ops [⟨(some 11), none, (.mv (.c (.int .i64 0)))⟩]) (.block 6 (.loop (.seq (.seq (.ops [⟨(some 75), none, (.mv (.t 11))⟩, ⟨(some 76), none, (.mv (.t 10))⟩, ⟨(some 77), none, (.bin .lss (.t 75) (.t 76))⟩]) (.cond (.t 77) .skip (.exit 6))) (.seq (.block 7 (.seq (.draw (.q false ⟨(some 80), none, (.fld 1 (.t 3))⟩ (.q false ⟨(some 81), none, (.ld false 1 (.t 80))⟩ (.q false ⟨(some 82), none, (.mv (.t 11))⟩ (.q false ⟨(some 83), none, (.ix 2 (.t 81) (.t 82))⟩ (.q false ⟨(some 84), none, (.fld 0 (.t 83))⟩ (.q false ⟨(some 85), none, (.ld false 1 (.t 84))⟩ (.q false ⟨(some 86), none, (.fld 1 (.t 3))⟩ (.q false ⟨(some 87), none, (.ld false 1 (.t 86))⟩ (.q false ⟨(some 88), none, (.mv (.t 10))⟩ (.q false ⟨(some 89), none, (.ix 2 (.t 87) (.t 88))⟩ (.q false ⟨(some 90), none, (.fld 0 (.t 89))⟩ (.q false ⟨(some 91), none, (.ld false 1 (.t 90))⟩ (.q false ⟨(some 92), none, (.bin .eql (.t 85) (.t 91))⟩ .nil)))))))))))))) (.cond (.t 92) (.seq (.ops [⟨(some 93), none, (.call false 25 [])⟩, ⟨(some 6), none, (.mv (.t 93))⟩]) .ret) .skip))) (.ops [⟨(some 78), none, (.mv (.t 11))⟩, ⟨(some 79), none, (.bin .add (.t 78) (.c (.int .i64 1)))⟩, ⟨(some 11), none, (.mv (.t 79))⟩])))))) (.draw (.q false ⟨(some 94), none, (.fld 1 (.t 7))⟩ (.q false ⟨(some 95), none, (.ld false 1 (.t 94))⟩ (.q false ⟨(some 96), none, (.fld 1 (.t 3))⟩ (.q false ⟨(some 97), none, (.ld false 1 (.t 96))⟩ (.q false ⟨(some 98), none, (.mv (.t 10))⟩ (.q false ⟨(some 99), none, (.ix 2 (.t 97) (.t 98))⟩ (.q false ⟨(some 100), none, (.ld true 2 (.t 99))⟩ (.op ⟨(some 101), none, (.buildSl 61 2 1 [(.int .i64 0), (.int .i64 0)] [(0, (.t 100))])⟩ (.op ⟨(some 102), none, (.app 61 2 16 (.t 95) (.t 101))⟩ (.q false ⟨(some 103), none, (.fld 1 (.t 7))⟩ (.op ⟨none, none, (.sto 1 (.t 103) (.t 102))⟩ .nil)))))))))))))) (.ops [⟨(some 73), none, (.mv (.t 10))⟩, ⟨(some 74), none, (.bin .sub (.t 73) (.c (.int .i64 1)))⟩, ⟨(some 10), none, (.mv (.t 74))⟩])))))) (.seq (.draw (.q false ⟨(some 104), none, (.ld true 9 (.t 7))⟩ (.q false ⟨(some 105), none, (.ld true 9 (.t 4))⟩ (.q false ⟨(some 106), none, (.mv (.t 2))⟩ (.q false ⟨(some 108), none, (.ld true 9 (.t 3))⟩ (.q false ⟨(some 109), none, (.ld true 9 (.t 4))⟩ (.q false ⟨(some 110), none, (.mv (.t 2))⟩ (.op ⟨(some 107), none, (.call false 35 [(.t 104), (.t 105), (.t 106)])⟩ (.op ⟨(some 111), none, (.call false 35 [(.t 108), (.t 109), (.t 110)])⟩ (.q false ⟨(some 112), none, (.bin .eql (.t 107) (.t 111))⟩ (.q false ⟨(some 113), none, (.mv (.t 112))⟩ (.q false ⟨(some 114), (some (113, true)), (.ld true 9 (.t 3))⟩ (.q false ⟨(some 115), (some (113, true)), (.ld true 9 (.t 7))⟩ (.q false ⟨(some 116), (some (113, true)), (.mv (.t 2))⟩ (.op ⟨(some 117), (some (113, true)), (.call false 35 [(.t 114), (.t 115), (.t 116)])⟩ (.q false ⟨(some 118), (some (113, true)), (.bin .eql (.t 117) (.c (.int .i64 0)))⟩ (.q false ⟨(some 119), none, (.pick (.t 113) (.t 118) (.c (.bool false)))⟩ (.q false ⟨(some 120), none, (.mv (.t 119))⟩ (.q false ⟨(some 121), (some (120, true)), (.ld true 9 (.t 7))⟩ (.q false ⟨(some 122), (some (120, true)), (.mv (.t 2))⟩ (.q false ⟨(some 124), (some (120, true)), (.ld true 9 (.t 3))⟩ (.q false ⟨(some 125), (some (120, true)), (.mv (.t 2))⟩ (.op ⟨(some 123), (some (120, true)), (.call false 26 [(.t 121), (.t 122)])⟩ (.op ⟨(some 126), (some (120, true)), (.call false 26 [(.t 124), (.t 125)])⟩ (.q false ⟨(some 127), (some (120, true)), (.bin .eql (.t 123) (.t 126))⟩ (.q false ⟨(some 128), none, (.pick (.t 120) (.t 127) (.c (.bool false)))⟩ (.q false ⟨(some 129), none, (.mv (.t 128))⟩ (.op ⟨(some 130), (some (129, true)), (.call false 25 [])⟩ (.q false ⟨(some 131), none, (.pick (.t 129) (.t 130) (.c (.bool false)))⟩ (.q false ⟨(some 6), none, (.mv (.t 131))⟩ .nil)))))))))))))))))))))))))))))) .ret))))))))
theorem tr13 : Try.f13.body.bind (trCode Try.prog) = some (strip ac13) := by kernel_rfl
theorem spec13 (v w : Lv) (u : List UInt8) : Spec Try.prog 13 [.fz (.agg (encLv v)), .fz (.agg (encLv w)), .fz (.str u)] (.fz (.bool true)) := by
  refine spec_at (n := 129) (ars := [(.t 6)]) (ac := ac13) Try.func13 (by kernel_rfl) (by kernel_rfl) tr13 (by kernel_rfl) ?_
  unfold ac13
  by_cases hg : 12 < v.users.length ∨ 12 < v.kinds.length ∨ greatB w = true
  · skip
    iterate 40 (all_goals (try (first
      | ((with_reducible refine of_kSpec ?_); refine call_fz (spec24 w) rfl ?_)
      | ((with_reducible refine of_kSpec ?_); refine call_fz (spec25) rfl ?_)
      | (with_reducible refine ite_in (fun _ => ?_) (fun _ => ?_))
      | (with_reducible refine ⟨fun _ => ?_, fun _ => ?_⟩)
      | (with_reducible refine And.intro ?_ ?_)
      | (with_reducible intro _)
      | (with_reducible exact is_in _)
      | (simp -implicitDefEqProofs only [SD, SF, SL, e_nf, reduceCtorEq, implies_true, ↓reduceIte, Nat.reduceEqDiff, Nat.reduceAdd, Nat.reduceMul, Nat.reduceSub, Nat.reduceLeDiff, Nat.reduceLT, Int.reduceLT, Int.reduceLE, Int.reduceEq, Int.reduceToNat, Int.reduceAdd, Int.reduceSub, Int.reduceNeg, Int.reduceBEq, Int.reduceBNe, Nat.reduceBEq, Int.cast_ofNat_Int, decide_true, decide_false, ne_eq, eq_self_iff_true, beq_eq_false_iff_ne, bne_iff_ne, List.replicate, encLv, *]))))
    all_goals (first | (simp_all; done) | (simp_all; omega))
  have hga : ¬ ((12 : Int) < v.users.length) := fun h => hg (.inl (by omega))
  have hgb : ¬ ((12 : Int) < v.kinds.length) := fun h => hg (.inr (.inl (by omega)))
  have hgc : greatB w = false := by cases h : greatB w <;> simp_all
  clear hg
  have hwu : IntKind.i64.wrap ((v.users.length : Int) - 1) = (v.users.length : Int) - 1 := wrap_in (by omega) (by omega)
  iterate 24 (all_goals (try (first
    | ((with_reducible refine of_kSpec ?_); refine call_fz (spec24 w) rfl ?_)
    | (with_reducible refine ite_in (fun _ => ?_) (fun _ => ?_))
    | (with_reducible refine ⟨fun _ => ?_, fun _ => ?_⟩)
    | (with_reducible refine And.intro ?_ ?_)
    | (with_reducible intro _)
    | (with_reducible exact is_in _)
    | (simp -implicitDefEqProofs only [SD, SF, SL, e_nf, reduceCtorEq, implies_true, ↓reduceIte, Nat.reduceEqDiff, Nat.reduceAdd, Nat.reduceMul, Nat.reduceSub, Nat.reduceLeDiff, Nat.reduceLT, Int.reduceLT, Int.reduceLE, Int.reduceEq, Int.reduceToNat, Int.reduceAdd, Int.reduceSub, Int.reduceNeg, Int.reduceBEq, Int.reduceBNe, Nat.reduceBEq, Int.cast_ofNat_Int, decide_true, decide_false, ne_eq, eq_self_iff_true, beq_eq_false_iff_ne, bne_iff_ne, List.replicate, encLv, *]))))
  refine loop_r (X := List LU × List LU × (DV × List (Nat × Blk))) (fun n x => v.users = x.1 ++ x.2.1 ∧ n = x.1.length ∧ x.2.1.Pairwise (fun a b => a.user ≠ b.user) ∧ (∀ a ∈ x.1, ∀ b ∈ x.2.1, a.user ≠ b.user) ∧ ((x.2.1 = [] ∧ x.2.2 = (DV.e0, [])) ∨ x.2.2 = (DV.ow 65, [(65, Blk.vec 58 2 (x.2.1.reverse.map encLU))]))) (fun x => [(8, .int .i64 ((x.1.length : Int) - 1))]) (fun x => (7, .box [x.2.2.1, .e0, .int .i64 v.a2, .int .i64 v.a3, .int .i64 v.a4, .int .i64 v.a5, .int .i64 v.a6, .int .i64 v.a7, .int .i64 v.a8]) :: x.2.2.2) [6, 9, 34, 35, 36, 37, 38, 39, 40, 41, 42, 43, 44, 45, 46, 47, 48, 49, 50, 51, 52, 53, 54, 55, 56, 57, 58, 59, 60, 61, 62, 63, 64, 65, 66] [7, 64, 65] [] (v.users).length (v.users, [], (DV.e0, [])) ⟨by simp, rfl, by simp, by simp, .inl ⟨rfl, rfl⟩⟩ ?_ ?_
  · simp -implicitDefEqProofs only [SD, SF, SL, e_nf, reduceCtorEq, implies_true, ↓reduceIte, Nat.reduceEqDiff, Nat.reduceAdd, Nat.reduceMul, Nat.reduceSub, Nat.reduceLeDiff, Nat.reduceLT, Int.reduceLT, Int.reduceLE, Int.reduceEq, Int.reduceToNat, Int.reduceAdd, Int.reduceSub, Int.reduceNeg, Int.reduceBEq, Int.reduceBNe, Nat.reduceBEq, Int.cast_ofNat_Int, decide_true, decide_false, ne_eq, eq_self_iff_true, beq_eq_false_iff_ne, bne_iff_ne, List.replicate, encLv] <;> simp
  · rintro n ⟨prea, sufa, sta⟩ ⟨hea, rfl, h3a, h4a, h5a⟩
    dsimp only at hea h3a h4a h5a
    rcases List.eq_nil_or_concat prea with rfl | ⟨psa, x0a, rfl⟩
    · obtain rfl : v.users = sufa := by simpa using hea
      have hm1 : ((([] : List LU).length : Int) - 1) = -1 := rfl
      have hm2 : ¬ ((0 : Int) ≤ -1) := by decide
      clear hea h4a
      rcases h5a with ⟨hna, rfl⟩ | rfl
      · skip
        have hlk : v.kinds.length ≤ 12 := by omega
        have hwk : IntKind.i64.wrap ((v.kinds.length : Int) - 1) = (v.kinds.length : Int) - 1 := wrap_in (by omega) (by omega)
        iterate 8 (all_goals (try (first
          | (with_reducible refine ite_in (fun _ => ?_) (fun _ => ?_))
          | (with_reducible refine ⟨fun _ => ?_, fun _ => ?_⟩)
          | (with_reducible refine And.intro ?_ ?_)
          | (with_reducible intro _)
          | (with_reducible exact is_in _)
          | (simp -implicitDefEqProofs only [SD, SF, SL, e_nf, reduceCtorEq, implies_true, ↓reduceIte, Nat.reduceEqDiff, Nat.reduceAdd, Nat.reduceMul, Nat.reduceSub, Nat.reduceLeDiff, Nat.reduceLT, Int.reduceLT, Int.reduceLE, Int.reduceEq, Int.reduceToNat, Int.reduceAdd, Int.reduceSub, Int.reduceNeg, Int.reduceBEq, Int.reduceBNe, Nat.reduceBEq, Int.cast_ofNat_Int, decide_true, decide_false, ne_eq, eq_self_iff_true, beq_eq_false_iff_ne, bne_iff_ne, List.replicate, encLv, *]))))
        refine loop_r (X := List LK × List LK × (DV × List (Nat × Blk))) (fun n x => v.kinds = x.1 ++ x.2.1 ∧ n = x.1.length ∧ x.2.1.Pairwise (fun a b => a.kind ≠ b.kind) ∧ (∀ a ∈ x.1, ∀ b ∈ x.2.1, a.kind ≠ b.kind) ∧ ((x.2.1 = [] ∧ x.2.2 = (DV.e0, [])) ∨ x.2.2 = (DV.ow 102, [(102, Blk.vec 61 2 (x.2.1.reverse.map encLK))]))) (fun x => [(10, .int .i64 ((x.1.length : Int) - 1))]) (fun x => (7, .box [.e0, x.2.2.1, .int .i64 v.a2, .int .i64 v.a3, .int .i64 v.a4, .int .i64 v.a5, .int .i64 v.a6, .int .i64 v.a7, .int .i64 v.a8]) :: x.2.2.2) [6, 11, 71, 72, 73, 74, 75, 76, 77, 78, 79, 80, 81, 82, 83, 84, 85, 86, 87, 88, 89, 90, 91, 92, 93, 94, 95, 96, 97, 98, 99, 100, 101, 102, 103] [7, 101, 102] [] (v.kinds).length (v.kinds, [], (DV.e0, [])) ⟨by simp, rfl, by simp, by simp, .inl ⟨rfl, rfl⟩⟩ ?_ ?_
        · simp -implicitDefEqProofs only [SD, SF, SL, e_nf, reduceCtorEq, implies_true, ↓reduceIte, Nat.reduceEqDiff, Nat.reduceAdd, Nat.reduceMul, Nat.reduceSub, Nat.reduceLeDiff, Nat.reduceLT, Int.reduceLT, Int.reduceLE, Int.reduceEq, Int.reduceToNat, Int.reduceAdd, Int.reduceSub, Int.reduceNeg, Int.reduceBEq, Int.reduceBNe, Nat.reduceBEq, Int.cast_ofNat_Int, decide_true, decide_false, ne_eq, eq_self_iff_true, beq_eq_false_iff_ne, bne_iff_ne, List.replicate, encLv] <;> simp
        · rintro n ⟨preb, sufb, stb⟩ ⟨heb, rfl, h3b, h4b, h5b⟩
          dsimp only at heb h3b h4b h5b
          rcases List.eq_nil_or_concat preb with rfl | ⟨psb, x0b, rfl⟩
          · obtain rfl : v.kinds = sufb := by simpa using heb
            have hm1 : ((([] : List LK).length : Int) - 1) = -1 := rfl
            have hm2 : ¬ ((0 : Int) ≤ -1) := by decide
            clear heb h4b
            rcases h5b with ⟨hnb, rfl⟩ | rfl
            · skip
              have t1 := spec35 (turn v) w u
              have t2 := spec35 v (turn v) u
              have t3 := spec26 (turn v) u
              have t4 := spec26 v u
              rw [turn_chg h3a h3b] at t1
              rw [turn_self h3a h3b] at t2
              have t5 : userL (turn v).users u (turn v).a2 = userL v.users u v.a2 := turn_user h3a u
              rw [t5] at t3
              clear t5
              iterate 90 (all_goals (try (first
                | ((with_reducible refine of_kSpec ?_)
                   refine call_sub (ds' := [.agg (encLv (turn v)), .agg (encLv w), .str u]) (t1) rfl ?_ ?_
                   · simp -implicitDefEqProofs only [SD, SF, SL, e_nf, reduceCtorEq, implies_true, ↓reduceIte, Nat.reduceEqDiff, Nat.reduceAdd, Nat.reduceMul, Nat.reduceSub, Nat.reduceLeDiff, Nat.reduceLT, Int.reduceLT, Int.reduceLE, Int.reduceEq, Int.reduceToNat, Int.reduceAdd, Int.reduceSub, Int.reduceNeg, Int.reduceBEq, Int.reduceBNe, Nat.reduceBEq, Int.cast_ofNat_Int, decide_true, decide_false, ne_eq, eq_self_iff_true, beq_eq_false_iff_ne, bne_iff_ne, List.replicate, encLv, turn, List.reverse_nil, List.map_nil, *]
                     done)
                | ((with_reducible refine of_kSpec ?_)
                   refine call_sub (ds' := [.agg (encLv v), .agg (encLv (turn v)), .str u]) (t2) rfl ?_ ?_
                   · simp -implicitDefEqProofs only [SD, SF, SL, e_nf, reduceCtorEq, implies_true, ↓reduceIte, Nat.reduceEqDiff, Nat.reduceAdd, Nat.reduceMul, Nat.reduceSub, Nat.reduceLeDiff, Nat.reduceLT, Int.reduceLT, Int.reduceLE, Int.reduceEq, Int.reduceToNat, Int.reduceAdd, Int.reduceSub, Int.reduceNeg, Int.reduceBEq, Int.reduceBNe, Nat.reduceBEq, Int.cast_ofNat_Int, decide_true, decide_false, ne_eq, eq_self_iff_true, beq_eq_false_iff_ne, bne_iff_ne, List.replicate, encLv, turn, List.reverse_nil, List.map_nil, *]
                     done)
                | ((with_reducible refine of_kSpec ?_)
                   refine call_sub (ds' := [.agg (encLv v), .agg (encLv w), .str u]) (spec35 v w u) rfl ?_ ?_
                   · simp -implicitDefEqProofs only [SD, SF, SL, e_nf, reduceCtorEq, implies_true, ↓reduceIte, Nat.reduceEqDiff, Nat.reduceAdd, Nat.reduceMul, Nat.reduceSub, Nat.reduceLeDiff, Nat.reduceLT, Int.reduceLT, Int.reduceLE, Int.reduceEq, Int.reduceToNat, Int.reduceAdd, Int.reduceSub, Int.reduceNeg, Int.reduceBEq, Int.reduceBNe, Nat.reduceBEq, Int.cast_ofNat_Int, decide_true, decide_false, ne_eq, eq_self_iff_true, beq_eq_false_iff_ne, bne_iff_ne, List.replicate, encLv, List.map_nil, *]
                     done)
                | ((with_reducible refine of_kSpec ?_)
                   refine call_sub (ds' := [.agg (encLv (turn v)), .str u]) (t3) rfl ?_ ?_
                   · simp -implicitDefEqProofs only [SD, SF, SL, e_nf, reduceCtorEq, implies_true, ↓reduceIte, Nat.reduceEqDiff, Nat.reduceAdd, Nat.reduceMul, Nat.reduceSub, Nat.reduceLeDiff, Nat.reduceLT, Int.reduceLT, Int.reduceLE, Int.reduceEq, Int.reduceToNat, Int.reduceAdd, Int.reduceSub, Int.reduceNeg, Int.reduceBEq, Int.reduceBNe, Nat.reduceBEq, Int.cast_ofNat_Int, decide_true, decide_false, ne_eq, eq_self_iff_true, beq_eq_false_iff_ne, bne_iff_ne, List.replicate, encLv, turn, List.reverse_nil, List.map_nil, *]
                     done)
                | ((with_reducible refine of_kSpec ?_)
                   refine call_sub (ds' := [.agg (encLv v), .str u]) (t4) rfl ?_ ?_
                   · simp -implicitDefEqProofs only [SD, SF, SL, e_nf, reduceCtorEq, implies_true, ↓reduceIte, Nat.reduceEqDiff, Nat.reduceAdd, Nat.reduceMul, Nat.reduceSub, Nat.reduceLeDiff, Nat.reduceLT, Int.reduceLT, Int.reduceLE, Int.reduceEq, Int.reduceToNat, Int.reduceAdd, Int.reduceSub, Int.reduceNeg, Int.reduceBEq, Int.reduceBNe, Nat.reduceBEq, Int.cast_ofNat_Int, decide_true, decide_false, ne_eq, eq_self_iff_true, beq_eq_false_iff_ne, bne_iff_ne, List.replicate, encLv, List.map_nil, *]
                     done)
                | ((with_reducible refine of_kSpec ?_); refine call_fz (spec25) rfl ?_)
                | (with_reducible refine ite_in (fun _ => ?_) (fun _ => ?_))
                | (with_reducible refine ⟨fun _ => ?_, fun _ => ?_⟩)
                | (with_reducible refine And.intro ?_ ?_)
                | (with_reducible intro _)
                | (with_reducible exact is_in _)
                | (simp -implicitDefEqProofs only [SD, SF, SL, e_nf, reduceCtorEq, implies_true, ↓reduceIte, Nat.reduceEqDiff, Nat.reduceAdd, Nat.reduceMul, Nat.reduceSub, Nat.reduceLeDiff, Nat.reduceLT, Int.reduceLT, Int.reduceLE, Int.reduceEq, Int.reduceToNat, Int.reduceAdd, Int.reduceSub, Int.reduceNeg, Int.reduceBEq, Int.reduceBNe, Nat.reduceBEq, Int.cast_ofNat_Int, decide_true, decide_false, ne_eq, eq_self_iff_true, beq_eq_false_iff_ne, bne_iff_ne, List.replicate, encLv, List.reverse_nil, *]))))
              all_goals (first | (simp_all; done))
            · skip
              have t1 := spec35 (turn v) w u
              have t2 := spec35 v (turn v) u
              have t3 := spec26 (turn v) u
              have t4 := spec26 v u
              rw [turn_chg h3a h3b] at t1
              rw [turn_self h3a h3b] at t2
              have t5 : userL (turn v).users u (turn v).a2 = userL v.users u v.a2 := turn_user h3a u
              rw [t5] at t3
              clear t5
              iterate 90 (all_goals (try (first
                | ((with_reducible refine of_kSpec ?_)
                   refine call_sub (ds' := [.agg (encLv (turn v)), .agg (encLv w), .str u]) (t1) rfl ?_ ?_
                   · simp -implicitDefEqProofs only [SD, SF, SL, e_nf, reduceCtorEq, implies_true, ↓reduceIte, Nat.reduceEqDiff, Nat.reduceAdd, Nat.reduceMul, Nat.reduceSub, Nat.reduceLeDiff, Nat.reduceLT, Int.reduceLT, Int.reduceLE, Int.reduceEq, Int.reduceToNat, Int.reduceAdd, Int.reduceSub, Int.reduceNeg, Int.reduceBEq, Int.reduceBNe, Nat.reduceBEq, Int.cast_ofNat_Int, decide_true, decide_false, ne_eq, eq_self_iff_true, beq_eq_false_iff_ne, bne_iff_ne, List.replicate, encLv, turn, List.reverse_nil, List.map_nil, *]
                     done)
                | ((with_reducible refine of_kSpec ?_)
                   refine call_sub (ds' := [.agg (encLv v), .agg (encLv (turn v)), .str u]) (t2) rfl ?_ ?_
                   · simp -implicitDefEqProofs only [SD, SF, SL, e_nf, reduceCtorEq, implies_true, ↓reduceIte, Nat.reduceEqDiff, Nat.reduceAdd, Nat.reduceMul, Nat.reduceSub, Nat.reduceLeDiff, Nat.reduceLT, Int.reduceLT, Int.reduceLE, Int.reduceEq, Int.reduceToNat, Int.reduceAdd, Int.reduceSub, Int.reduceNeg, Int.reduceBEq, Int.reduceBNe, Nat.reduceBEq, Int.cast_ofNat_Int, decide_true, decide_false, ne_eq, eq_self_iff_true, beq_eq_false_iff_ne, bne_iff_ne, List.replicate, encLv, turn, List.reverse_nil, List.map_nil, *]
                     done)
                | ((with_reducible refine of_kSpec ?_)
                   refine call_sub (ds' := [.agg (encLv v), .agg (encLv w), .str u]) (spec35 v w u) rfl ?_ ?_
                   · simp -implicitDefEqProofs only [SD, SF, SL, e_nf, reduceCtorEq, implies_true, ↓reduceIte, Nat.reduceEqDiff, Nat.reduceAdd, Nat.reduceMul, Nat.reduceSub, Nat.reduceLeDiff, Nat.reduceLT, Int.reduceLT, Int.reduceLE, Int.reduceEq, Int.reduceToNat, Int.reduceAdd, Int.reduceSub, Int.reduceNeg, Int.reduceBEq, Int.reduceBNe, Nat.reduceBEq, Int.cast_ofNat_Int, decide_true, decide_false, ne_eq, eq_self_iff_true, beq_eq_false_iff_ne, bne_iff_ne, List.replicate, encLv, List.map_nil, *]
                     done)
                | ((with_reducible refine of_kSpec ?_)
                   refine call_sub (ds' := [.agg (encLv (turn v)), .str u]) (t3) rfl ?_ ?_
                   · simp -implicitDefEqProofs only [SD, SF, SL, e_nf, reduceCtorEq, implies_true, ↓reduceIte, Nat.reduceEqDiff, Nat.reduceAdd, Nat.reduceMul, Nat.reduceSub, Nat.reduceLeDiff, Nat.reduceLT, Int.reduceLT, Int.reduceLE, Int.reduceEq, Int.reduceToNat, Int.reduceAdd, Int.reduceSub, Int.reduceNeg, Int.reduceBEq, Int.reduceBNe, Nat.reduceBEq, Int.cast_ofNat_Int, decide_true, decide_false, ne_eq, eq_self_iff_true, beq_eq_false_iff_ne, bne_iff_ne, List.replicate, encLv, turn, List.reverse_nil, List.map_nil, *]
                     done)
                | ((with_reducible refine of_kSpec ?_)
                   refine call_sub (ds' := [.agg (encLv v), .str u]) (t4) rfl ?_ ?_
                   · simp -implicitDefEqProofs only [SD, SF, SL, e_nf, reduceCtorEq, implies_true, ↓reduceIte, Nat.reduceEqDiff, Nat.reduceAdd, Nat.reduceMul, Nat.reduceSub, Nat.reduceLeDiff, Nat.reduceLT, Int.reduceLT, Int.reduceLE, Int.reduceEq, Int.reduceToNat, Int.reduceAdd, Int.reduceSub, Int.reduceNeg, Int.reduceBEq, Int.reduceBNe, Nat.reduceBEq, Int.cast_ofNat_Int, decide_true, decide_false, ne_eq, eq_self_iff_true, beq_eq_false_iff_ne, bne_iff_ne, List.replicate, encLv, List.map_nil, *]
                     done)
                | ((with_reducible refine of_kSpec ?_); refine call_fz (spec25) rfl ?_)
                | (with_reducible refine ite_in (fun _ => ?_) (fun _ => ?_))
                | (with_reducible refine ⟨fun _ => ?_, fun _ => ?_⟩)
                | (with_reducible refine And.intro ?_ ?_)
                | (with_reducible intro _)
                | (with_reducible exact is_in _)
                | (simp -implicitDefEqProofs only [SD, SF, SL, e_nf, reduceCtorEq, implies_true, ↓reduceIte, Nat.reduceEqDiff, Nat.reduceAdd, Nat.reduceMul, Nat.reduceSub, Nat.reduceLeDiff, Nat.reduceLT, Int.reduceLT, Int.reduceLE, Int.reduceEq, Int.reduceToNat, Int.reduceAdd, Int.reduceSub, Int.reduceNeg, Int.reduceBEq, Int.reduceBNe, Nat.reduceBEq, Int.cast_ofNat_Int, decide_true, decide_false, ne_eq, eq_self_iff_true, beq_eq_false_iff_ne, bne_iff_ne, List.replicate, encLv, List.reverse_nil, *]))))
              all_goals (first | (simp_all; done))
          · simp only [List.concat_eq_append] at *
            have hzb : (v.kinds).length = psb.length + 1 + sufb.length := by rw [heb]; simp; omega
            have hi : ((((psb ++ [x0b]).length : Nat) : Int) - 1) = psb.length := by simp
            have hnn : (0 : Int) ≤ (psb.length : Int) := by omega
            have hx0b : (List.map encLK (v.kinds)).getD psb.length [] = [.int .i64 x0b.kind, .int .i64 x0b.n] := by
              have := cutD encLK (es := v.kinds) (pre := psb) (x := x0b) (rest := sufb) (by rw [heb]; simp)
              simpa [encLK] using this
            have hlt0 : (psb.length : Int) < (v.kinds).length := by omega
            have hw0 : IntKind.i64.wrap ((psb.length : Int) - 1) = (psb.length : Int) - 1 := wrap_in (by omega) (by omega)
            have hz6 : sufb.length + 1 ≤ maxLen := by simp only [maxLen]; omega
            have hz7 : (sufb.length + 1) * 24 ≤ 140737488355328 := by omega
            have hz8 : (sufb.length + 1) * 16 ≤ 140737488355328 := by omega
            have hz9 : (sufb.reverse.map encLK).length = sufb.length := by simp
            replace heb := Hd.mk heb
            replace hzb := Hd.mk hzb
            rcases h5b with ⟨h5b, rfl⟩ | rfl
            case' inl => replace h5b := Hd.mk h5b
            all_goals (
              iterate 10 (all_goals (try (first
                | (with_reducible refine ite_in (fun _ => ?_) (fun _ => ?_))
                | (with_reducible refine ⟨fun _ => ?_, fun _ => ?_⟩)
                | (with_reducible refine And.intro ?_ ?_)
                | (with_reducible intro _)
                | (with_reducible exact is_in _)
                | (simp -implicitDefEqProofs only [SD, SF, SL, e_nf, reduceCtorEq, implies_true, ↓reduceIte, Nat.reduceEqDiff, Nat.reduceAdd, Nat.reduceMul, Nat.reduceSub, Nat.reduceLeDiff, Nat.reduceLT, Int.reduceLT, Int.reduceLE, Int.reduceEq, Int.reduceToNat, Int.reduceAdd, Int.reduceSub, Int.reduceNeg, Int.reduceBEq, Int.reduceBNe, Nat.reduceBEq, Int.cast_ofNat_Int, decide_true, decide_false, ne_eq, eq_self_iff_true, beq_eq_false_iff_ne, bne_iff_ne, List.replicate, encLv, *]))))
              refine loop_q (X := List LK × List LK × Unit) (fun n x => psb = x.1 ++ x.2.1 ∧ n = x.2.1.length ∧ (∀ a ∈ x.1, a.kind ≠ x0b.kind)) (fun x => [(11, .int .i64 x.1.length)]) (fun _ => []) [6, 75, 76, 77, 78, 79, 80, 81, 82, 83, 84, 85, 86, 87, 88, 89, 90, 91, 92, 93] []  (psb).length ([], psb, ()) ⟨rfl, rfl, by simp⟩ ?_ ?_
              · simp -implicitDefEqProofs only [SD, SF, SL, e_nf, reduceCtorEq, implies_true, ↓reduceIte, Nat.reduceEqDiff, Nat.reduceAdd, Nat.reduceMul, Nat.reduceSub, Nat.reduceLeDiff, Nat.reduceLT, Int.reduceLT, Int.reduceLE, Int.reduceEq, Int.reduceToNat, Int.reduceAdd, Int.reduceSub, Int.reduceNeg, Int.reduceBEq, Int.reduceBNe, Nat.reduceBEq, Int.cast_ofNat_Int, decide_true, decide_false, ne_eq, eq_self_iff_true, beq_eq_false_iff_ne, bne_iff_ne, List.replicate, encLv] <;> simp
              · rintro n ⟨pre9b, rest9b, a9b⟩ ⟨he9b, rfl, hI9b⟩
                dsimp only at he9b hI9b
                cases rest9b with
                | nil =>
                  obtain rfl : psb = pre9b := by simpa using he9b
                  clear he9b
                  have hlt9b : ¬ (((psb).length : Int) < ((psb).length : Int)) := Int.lt_irrefl _
                  iterate 34 (all_goals (try (first
                    | ((with_reducible refine back_in psb.length [6, 11, 71, 72, 73, 74, 75, 76, 77, 78, 79, 80, 81, 82, 83, 84, 85, 86, 87, 88, 89, 90, 91, 92, 93, 94, 95, 96, 97, 98, 99, 100, 101, 102, 103] [101] (psb, x0b :: sufb, (DV.ow 102, [(102, Blk.vec 61 2 [[.int .i64 x0b.kind, .int .i64 x0b.n]])])) ?_ ⟨?_, ?_, ?_, ?_, ?_⟩ ?_)
                       · simp
                       · rw [heb.out]; simp
                       · rfl
                       · exact List.pairwise_cons.2 ⟨fun b hb => h4b x0b (by simp) b hb, h3b⟩
                       · intro a ha b hb
                         rcases List.mem_cons.1 hb with rfl | hb
                         · exact hI9b a ha
                         · exact h4b a (by simp [ha]) b hb
                       · right; rw [h5b.out]; rfl
                       · first | (simp -implicitDefEqProofs only [SD, SF, SL, e_nf, reduceCtorEq, implies_true, ↓reduceIte, Nat.reduceEqDiff, Nat.reduceAdd, Nat.reduceMul, Nat.reduceSub, Nat.reduceLeDiff, Nat.reduceLT, Int.reduceLT, Int.reduceLE, Int.reduceEq, Int.reduceToNat, Int.reduceAdd, Int.reduceSub, Int.reduceNeg, Int.reduceBEq, Int.reduceBNe, Nat.reduceBEq, Int.cast_ofNat_Int, decide_true, decide_false, ne_eq, eq_self_iff_true, beq_eq_false_iff_ne, bne_iff_ne, List.replicate, encLv] <;> simp <;> done) | (simp -implicitDefEqProofs only [SD, SF, SL, e_nf, reduceCtorEq, implies_true, ↓reduceIte, Nat.reduceEqDiff, Nat.reduceAdd, Nat.reduceMul, Nat.reduceSub, Nat.reduceLeDiff, Nat.reduceLT, Int.reduceLT, Int.reduceLE, Int.reduceEq, Int.reduceToNat, Int.reduceAdd, Int.reduceSub, Int.reduceNeg, Int.reduceBEq, Int.reduceBNe, Nat.reduceBEq, Int.cast_ofNat_Int, decide_true, decide_false, ne_eq, eq_self_iff_true, beq_eq_false_iff_ne, bne_iff_ne, List.replicate, encLv, *] <;> simp_all <;> done))
                    | ((with_reducible refine back_in psb.length [6, 11, 71, 72, 73, 74, 75, 76, 77, 78, 79, 80, 81, 82, 83, 84, 85, 86, 87, 88, 89, 90, 91, 92, 93, 94, 95, 96, 97, 98, 99, 100, 101, 102, 103] [101] (psb, x0b :: sufb, (DV.ow 102, [(102, Blk.vec 61 2 (sufb.reverse.map encLK ++ [[.int .i64 x0b.kind, .int .i64 x0b.n]]))])) ?_ ⟨?_, ?_, ?_, ?_, ?_⟩ ?_)
                       · simp
                       · rw [heb.out]; simp
                       · rfl
                       · exact List.pairwise_cons.2 ⟨fun b hb => h4b x0b (by simp) b hb, h3b⟩
                       · intro a ha b hb
                         rcases List.mem_cons.1 hb with rfl | hb
                         · exact hI9b a ha
                         · exact h4b a (by simp [ha]) b hb
                       · right; simp [encLK]
                       · first | (simp -implicitDefEqProofs only [SD, SF, SL, e_nf, reduceCtorEq, implies_true, ↓reduceIte, Nat.reduceEqDiff, Nat.reduceAdd, Nat.reduceMul, Nat.reduceSub, Nat.reduceLeDiff, Nat.reduceLT, Int.reduceLT, Int.reduceLE, Int.reduceEq, Int.reduceToNat, Int.reduceAdd, Int.reduceSub, Int.reduceNeg, Int.reduceBEq, Int.reduceBNe, Nat.reduceBEq, Int.cast_ofNat_Int, decide_true, decide_false, ne_eq, eq_self_iff_true, beq_eq_false_iff_ne, bne_iff_ne, List.replicate, encLv] <;> simp <;> done) | (simp -implicitDefEqProofs only [SD, SF, SL, e_nf, reduceCtorEq, implies_true, ↓reduceIte, Nat.reduceEqDiff, Nat.reduceAdd, Nat.reduceMul, Nat.reduceSub, Nat.reduceLeDiff, Nat.reduceLT, Int.reduceLT, Int.reduceLE, Int.reduceEq, Int.reduceToNat, Int.reduceAdd, Int.reduceSub, Int.reduceNeg, Int.reduceBEq, Int.reduceBNe, Nat.reduceBEq, Int.cast_ofNat_Int, decide_true, decide_false, ne_eq, eq_self_iff_true, beq_eq_false_iff_ne, bne_iff_ne, List.replicate, encLv, *] <;> simp_all <;> done))
                    | (with_reducible refine ite_in (fun _ => ?_) (fun _ => ?_))
                    | (with_reducible refine ⟨fun _ => ?_, fun _ => ?_⟩)
                    | (with_reducible refine And.intro ?_ ?_)
                    | (with_reducible intro _)
                    | (with_reducible exact is_in _)
                    | (simp -implicitDefEqProofs only [SD, SF, SL, e_nf, reduceCtorEq, implies_true, ↓reduceIte, Nat.reduceEqDiff, Nat.reduceAdd, Nat.reduceMul, Nat.reduceSub, Nat.reduceLeDiff, Nat.reduceLT, Int.reduceLT, Int.reduceLE, Int.reduceEq, Int.reduceToNat, Int.reduceAdd, Int.reduceSub, Int.reduceNeg, Int.reduceBEq, Int.reduceBNe, Nat.reduceBEq, Int.cast_ofNat_Int, decide_true, decide_false, ne_eq, eq_self_iff_true, beq_eq_false_iff_ne, bne_iff_ne, List.replicate, encLv, *]))))
                  all_goals (first | (simp only [maxLen] at *; omega) | (simp only [List.length_map, List.length_reverse, List.length_append, List.length_cons, List.length_nil, maxLen]; omega))

                | cons x9b rest9b =>
                  have hlt9b := cut_lt he9b
                  have hlz9b := cut_lt' he9b
                  have hx9b := cutD encLK he9b
                  simp only [encLK] at hx9b
                  have hw9b := wrap_len (n := pre9b.length) (m := (psb).length) (cut_lt' he9b) (by have := hzb.out; simp only [maxLen]; omega)
                  replace he9b := Hd.mk he9b
                  have hx' : (List.map encLK v.kinds).getD pre9b.length [] = [.int .i64 x9b.kind, .int .i64 x9b.n] := by
                    have := cutD encLK (es := v.kinds) (pre := pre9b) (x := x9b) (rest := rest9b ++ x0b :: sufb) (by rw [heb.out, he9b.out]; simp)
                    simpa [encLK] using this
                  have hq : (pre9b.length : Int) < (v.kinds).length := by
                    have := hzb.out
                    omega
                  clear hx9b
                  iterate 30 (all_goals (try (first
                    | ((with_reducible refine back_in rest9b.length [6, 75, 76, 77, 78, 79, 80, 81, 82, 83, 84, 85, 86, 87, 88, 89, 90, 91, 92, 93] [] (pre9b ++ [x9b], rest9b, a9b) ?_ ⟨?_, ?_, ?_⟩ ?_)
                       · simp
                       · exact cut_snoc he9b.out
                       · rfl
                       · first | (simp; done) | (intro a ha; rcases List.mem_append.1 ha with h | h; exact hI9b a h; simp at h; subst h; assumption)
                       · first | (simp -implicitDefEqProofs only [SD, SF, SL, e_nf, reduceCtorEq, implies_true, ↓reduceIte, Nat.reduceEqDiff, Nat.reduceAdd, Nat.reduceMul, Nat.reduceSub, Nat.reduceLeDiff, Nat.reduceLT, Int.reduceLT, Int.reduceLE, Int.reduceEq, Int.reduceToNat, Int.reduceAdd, Int.reduceSub, Int.reduceNeg, Int.reduceBEq, Int.reduceBNe, Nat.reduceBEq, Int.cast_ofNat_Int, decide_true, decide_false, ne_eq, eq_self_iff_true, beq_eq_false_iff_ne, bne_iff_ne, List.replicate, encLv] <;> simp <;> done) | (simp -implicitDefEqProofs only [SD, SF, SL, e_nf, reduceCtorEq, implies_true, ↓reduceIte, Nat.reduceEqDiff, Nat.reduceAdd, Nat.reduceMul, Nat.reduceSub, Nat.reduceLeDiff, Nat.reduceLT, Int.reduceLT, Int.reduceLE, Int.reduceEq, Int.reduceToNat, Int.reduceAdd, Int.reduceSub, Int.reduceNeg, Int.reduceBEq, Int.reduceBNe, Nat.reduceBEq, Int.cast_ofNat_Int, decide_true, decide_false, ne_eq, eq_self_iff_true, beq_eq_false_iff_ne, bne_iff_ne, List.replicate, encLv, *] <;> simp_all <;> done))
                    | ((with_reducible refine of_kSpec ?_); refine call_fz (spec25) rfl ?_)
                    | (with_reducible refine ite_in (fun _ => ?_) (fun _ => ?_))
                    | (with_reducible refine ⟨fun _ => ?_, fun _ => ?_⟩)
                    | (with_reducible refine And.intro ?_ ?_)
                    | (with_reducible intro _)
                    | (with_reducible exact is_in _)
                    | (simp -implicitDefEqProofs only [SD, SF, SL, e_nf, reduceCtorEq, implies_true, ↓reduceIte, Nat.reduceEqDiff, Nat.reduceAdd, Nat.reduceMul, Nat.reduceSub, Nat.reduceLeDiff, Nat.reduceLT, Int.reduceLT, Int.reduceLE, Int.reduceEq, Int.reduceToNat, Int.reduceAdd, Int.reduceSub, Int.reduceNeg, Int.reduceBEq, Int.reduceBNe, Nat.reduceBEq, Int.cast_ofNat_Int, decide_true, decide_false, ne_eq, eq_self_iff_true, beq_eq_false_iff_ne, bne_iff_ne, List.replicate, encLv, *])))))

      · skip
        have hlk : v.kinds.length ≤ 12 := by omega
        have hwk : IntKind.i64.wrap ((v.kinds.length : Int) - 1) = (v.kinds.length : Int) - 1 := wrap_in (by omega) (by omega)
        iterate 8 (all_goals (try (first
          | (with_reducible refine ite_in (fun _ => ?_) (fun _ => ?_))
          | (with_reducible refine ⟨fun _ => ?_, fun _ => ?_⟩)
          | (with_reducible refine And.intro ?_ ?_)
          | (with_reducible intro _)
          | (with_reducible exact is_in _)
          | (simp -implicitDefEqProofs only [SD, SF, SL, e_nf, reduceCtorEq, implies_true, ↓reduceIte, Nat.reduceEqDiff, Nat.reduceAdd, Nat.reduceMul, Nat.reduceSub, Nat.reduceLeDiff, Nat.reduceLT, Int.reduceLT, Int.reduceLE, Int.reduceEq, Int.reduceToNat, Int.reduceAdd, Int.reduceSub, Int.reduceNeg, Int.reduceBEq, Int.reduceBNe, Nat.reduceBEq, Int.cast_ofNat_Int, decide_true, decide_false, ne_eq, eq_self_iff_true, beq_eq_false_iff_ne, bne_iff_ne, List.replicate, encLv, *]))))
        refine loop_r (X := List LK × List LK × (DV × List (Nat × Blk))) (fun n x => v.kinds = x.1 ++ x.2.1 ∧ n = x.1.length ∧ x.2.1.Pairwise (fun a b => a.kind ≠ b.kind) ∧ (∀ a ∈ x.1, ∀ b ∈ x.2.1, a.kind ≠ b.kind) ∧ ((x.2.1 = [] ∧ x.2.2 = (DV.e0, [])) ∨ x.2.2 = (DV.ow 102, [(102, Blk.vec 61 2 (x.2.1.reverse.map encLK))]))) (fun x => [(10, .int .i64 ((x.1.length : Int) - 1))]) (fun x => (7, .box [.ow 65, x.2.2.1, .int .i64 v.a2, .int .i64 v.a3, .int .i64 v.a4, .int .i64 v.a5, .int .i64 v.a6, .int .i64 v.a7, .int .i64 v.a8]) :: x.2.2.2) [6, 11, 71, 72, 73, 74, 75, 76, 77, 78, 79, 80, 81, 82, 83, 84, 85, 86, 87, 88, 89, 90, 91, 92, 93, 94, 95, 96, 97, 98, 99, 100, 101, 102, 103] [7, 101, 102] [] (v.kinds).length (v.kinds, [], (DV.e0, [])) ⟨by simp, rfl, by simp, by simp, .inl ⟨rfl, rfl⟩⟩ ?_ ?_
        · simp -implicitDefEqProofs only [SD, SF, SL, e_nf, reduceCtorEq, implies_true, ↓reduceIte, Nat.reduceEqDiff, Nat.reduceAdd, Nat.reduceMul, Nat.reduceSub, Nat.reduceLeDiff, Nat.reduceLT, Int.reduceLT, Int.reduceLE, Int.reduceEq, Int.reduceToNat, Int.reduceAdd, Int.reduceSub, Int.reduceNeg, Int.reduceBEq, Int.reduceBNe, Nat.reduceBEq, Int.cast_ofNat_Int, decide_true, decide_false, ne_eq, eq_self_iff_true, beq_eq_false_iff_ne, bne_iff_ne, List.replicate, encLv] <;> simp
        · rintro n ⟨preb, sufb, stb⟩ ⟨heb, rfl, h3b, h4b, h5b⟩
          dsimp only at heb h3b h4b h5b
          rcases List.eq_nil_or_concat preb with rfl | ⟨psb, x0b, rfl⟩
          · obtain rfl : v.kinds = sufb := by simpa using heb
            have hm1 : ((([] : List LK).length : Int) - 1) = -1 := rfl
            have hm2 : ¬ ((0 : Int) ≤ -1) := by decide
            clear heb h4b
            rcases h5b with ⟨hnb, rfl⟩ | rfl
            · skip
              have t1 := spec35 (turn v) w u
              have t2 := spec35 v (turn v) u
              have t3 := spec26 (turn v) u
              have t4 := spec26 v u
              rw [turn_chg h3a h3b] at t1
              rw [turn_self h3a h3b] at t2
              have t5 : userL (turn v).users u (turn v).a2 = userL v.users u v.a2 := turn_user h3a u
              rw [t5] at t3
              clear t5
              iterate 90 (all_goals (try (first
                | ((with_reducible refine of_kSpec ?_)
                   refine call_sub (ds' := [.agg (encLv (turn v)), .agg (encLv w), .str u]) (t1) rfl ?_ ?_
                   · simp -implicitDefEqProofs only [SD, SF, SL, e_nf, reduceCtorEq, implies_true, ↓reduceIte, Nat.reduceEqDiff, Nat.reduceAdd, Nat.reduceMul, Nat.reduceSub, Nat.reduceLeDiff, Nat.reduceLT, Int.reduceLT, Int.reduceLE, Int.reduceEq, Int.reduceToNat, Int.reduceAdd, Int.reduceSub, Int.reduceNeg, Int.reduceBEq, Int.reduceBNe, Nat.reduceBEq, Int.cast_ofNat_Int, decide_true, decide_false, ne_eq, eq_self_iff_true, beq_eq_false_iff_ne, bne_iff_ne, List.replicate, encLv, turn, List.reverse_nil, List.map_nil, *]
                     done)
                | ((with_reducible refine of_kSpec ?_)
                   refine call_sub (ds' := [.agg (encLv v), .agg (encLv (turn v)), .str u]) (t2) rfl ?_ ?_
                   · simp -implicitDefEqProofs only [SD, SF, SL, e_nf, reduceCtorEq, implies_true, ↓reduceIte, Nat.reduceEqDiff, Nat.reduceAdd, Nat.reduceMul, Nat.reduceSub, Nat.reduceLeDiff, Nat.reduceLT, Int.reduceLT, Int.reduceLE, Int.reduceEq, Int.reduceToNat, Int.reduceAdd, Int.reduceSub, Int.reduceNeg, Int.reduceBEq, Int.reduceBNe, Nat.reduceBEq, Int.cast_ofNat_Int, decide_true, decide_false, ne_eq, eq_self_iff_true, beq_eq_false_iff_ne, bne_iff_ne, List.replicate, encLv, turn, List.reverse_nil, List.map_nil, *]
                     done)
                | ((with_reducible refine of_kSpec ?_)
                   refine call_sub (ds' := [.agg (encLv v), .agg (encLv w), .str u]) (spec35 v w u) rfl ?_ ?_
                   · simp -implicitDefEqProofs only [SD, SF, SL, e_nf, reduceCtorEq, implies_true, ↓reduceIte, Nat.reduceEqDiff, Nat.reduceAdd, Nat.reduceMul, Nat.reduceSub, Nat.reduceLeDiff, Nat.reduceLT, Int.reduceLT, Int.reduceLE, Int.reduceEq, Int.reduceToNat, Int.reduceAdd, Int.reduceSub, Int.reduceNeg, Int.reduceBEq, Int.reduceBNe, Nat.reduceBEq, Int.cast_ofNat_Int, decide_true, decide_false, ne_eq, eq_self_iff_true, beq_eq_false_iff_ne, bne_iff_ne, List.replicate, encLv, List.map_nil, *]
                     done)
                | ((with_reducible refine of_kSpec ?_)
                   refine call_sub (ds' := [.agg (encLv (turn v)), .str u]) (t3) rfl ?_ ?_
                   · simp -implicitDefEqProofs only [SD, SF, SL, e_nf, reduceCtorEq, implies_true, ↓reduceIte, Nat.reduceEqDiff, Nat.reduceAdd, Nat.reduceMul, Nat.reduceSub, Nat.reduceLeDiff, Nat.reduceLT, Int.reduceLT, Int.reduceLE, Int.reduceEq, Int.reduceToNat, Int.reduceAdd, Int.reduceSub, Int.reduceNeg, Int.reduceBEq, Int.reduceBNe, Nat.reduceBEq, Int.cast_ofNat_Int, decide_true, decide_false, ne_eq, eq_self_iff_true, beq_eq_false_iff_ne, bne_iff_ne, List.replicate, encLv, turn, List.reverse_nil, List.map_nil, *]
                     done)
                | ((with_reducible refine of_kSpec ?_)
                   refine call_sub (ds' := [.agg (encLv v), .str u]) (t4) rfl ?_ ?_
                   · simp -implicitDefEqProofs only [SD, SF, SL, e_nf, reduceCtorEq, implies_true, ↓reduceIte, Nat.reduceEqDiff, Nat.reduceAdd, Nat.reduceMul, Nat.reduceSub, Nat.reduceLeDiff, Nat.reduceLT, Int.reduceLT, Int.reduceLE, Int.reduceEq, Int.reduceToNat, Int.reduceAdd, Int.reduceSub, Int.reduceNeg, Int.reduceBEq, Int.reduceBNe, Nat.reduceBEq, Int.cast_ofNat_Int, decide_true, decide_false, ne_eq, eq_self_iff_true, beq_eq_false_iff_ne, bne_iff_ne, List.replicate, encLv, List.map_nil, *]
                     done)
                | ((with_reducible refine of_kSpec ?_); refine call_fz (spec25) rfl ?_)
                | (with_reducible refine ite_in (fun _ => ?_) (fun _ => ?_))
                | (with_reducible refine ⟨fun _ => ?_, fun _ => ?_⟩)
                | (with_reducible refine And.intro ?_ ?_)
                | (with_reducible intro _)
                | (with_reducible exact is_in _)
                | (simp -implicitDefEqProofs only [SD, SF, SL, e_nf, reduceCtorEq, implies_true, ↓reduceIte, Nat.reduceEqDiff, Nat.reduceAdd, Nat.reduceMul, Nat.reduceSub, Nat.reduceLeDiff, Nat.reduceLT, Int.reduceLT, Int.reduceLE, Int.reduceEq, Int.reduceToNat, Int.reduceAdd, Int.reduceSub, Int.reduceNeg, Int.reduceBEq, Int.reduceBNe, Nat.reduceBEq, Int.cast_ofNat_Int, decide_true, decide_false, ne_eq, eq_self_iff_true, beq_eq_false_iff_ne, bne_iff_ne, List.replicate, encLv, List.reverse_nil, *]))))
              all_goals (first | (simp_all; done))
            · skip
              have t1 := spec35 (turn v) w u
              have t2 := spec35 v (turn v) u
              have t3 := spec26 (turn v) u
              have t4 := spec26 v u
              rw [turn_chg h3a h3b] at t1
              rw [turn_self h3a h3b] at t2
              have t5 : userL (turn v).users u (turn v).a2 = userL v.users u v.a2 := turn_user h3a u
              rw [t5] at t3
              clear t5
              iterate 90 (all_goals (try (first
                | ((with_reducible refine of_kSpec ?_)
                   refine call_sub (ds' := [.agg (encLv (turn v)), .agg (encLv w), .str u]) (t1) rfl ?_ ?_
                   · simp -implicitDefEqProofs only [SD, SF, SL, e_nf, reduceCtorEq, implies_true, ↓reduceIte, Nat.reduceEqDiff, Nat.reduceAdd, Nat.reduceMul, Nat.reduceSub, Nat.reduceLeDiff, Nat.reduceLT, Int.reduceLT, Int.reduceLE, Int.reduceEq, Int.reduceToNat, Int.reduceAdd, Int.reduceSub, Int.reduceNeg, Int.reduceBEq, Int.reduceBNe, Nat.reduceBEq, Int.cast_ofNat_Int, decide_true, decide_false, ne_eq, eq_self_iff_true, beq_eq_false_iff_ne, bne_iff_ne, List.replicate, encLv, turn, List.reverse_nil, List.map_nil, *]
                     done)
                | ((with_reducible refine of_kSpec ?_)
                   refine call_sub (ds' := [.agg (encLv v), .agg (encLv (turn v)), .str u]) (t2) rfl ?_ ?_
                   · simp -implicitDefEqProofs only [SD, SF, SL, e_nf, reduceCtorEq, implies_true, ↓reduceIte, Nat.reduceEqDiff, Nat.reduceAdd, Nat.reduceMul, Nat.reduceSub, Nat.reduceLeDiff, Nat.reduceLT, Int.reduceLT, Int.reduceLE, Int.reduceEq, Int.reduceToNat, Int.reduceAdd, Int.reduceSub, Int.reduceNeg, Int.reduceBEq, Int.reduceBNe, Nat.reduceBEq, Int.cast_ofNat_Int, decide_true, decide_false, ne_eq, eq_self_iff_true, beq_eq_false_iff_ne, bne_iff_ne, List.replicate, encLv, turn, List.reverse_nil, List.map_nil, *]
                     done)
                | ((with_reducible refine of_kSpec ?_)
                   refine call_sub (ds' := [.agg (encLv v), .agg (encLv w), .str u]) (spec35 v w u) rfl ?_ ?_
                   · simp -implicitDefEqProofs only [SD, SF, SL, e_nf, reduceCtorEq, implies_true, ↓reduceIte, Nat.reduceEqDiff, Nat.reduceAdd, Nat.reduceMul, Nat.reduceSub, Nat.reduceLeDiff, Nat.reduceLT, Int.reduceLT, Int.reduceLE, Int.reduceEq, Int.reduceToNat, Int.reduceAdd, Int.reduceSub, Int.reduceNeg, Int.reduceBEq, Int.reduceBNe, Nat.reduceBEq, Int.cast_ofNat_Int, decide_true, decide_false, ne_eq, eq_self_iff_true, beq_eq_false_iff_ne, bne_iff_ne, List.replicate, encLv, List.map_nil, *]
                     done)
                | ((with_reducible refine of_kSpec ?_)
                   refine call_sub (ds' := [.agg (encLv (turn v)), .str u]) (t3) rfl ?_ ?_
                   · simp -implicitDefEqProofs only [SD, SF, SL, e_nf, reduceCtorEq, implies_true, ↓reduceIte, Nat.reduceEqDiff, Nat.reduceAdd, Nat.reduceMul, Nat.reduceSub, Nat.reduceLeDiff, Nat.reduceLT, Int.reduceLT, Int.reduceLE, Int.reduceEq, Int.reduceToNat, Int.reduceAdd, Int.reduceSub, Int.reduceNeg, Int.reduceBEq, Int.reduceBNe, Nat.reduceBEq, Int.cast_ofNat_Int, decide_true, decide_false, ne_eq, eq_self_iff_true, beq_eq_false_iff_ne, bne_iff_ne, List.replicate, encLv, turn, List.reverse_nil, List.map_nil, *]
                     done)
                | ((with_reducible refine of_kSpec ?_)
                   refine call_sub (ds' := [.agg (encLv v), .str u]) (t4) rfl ?_ ?_
                   · simp -implicitDefEqProofs only [SD, SF, SL, e_nf, reduceCtorEq, implies_true, ↓reduceIte, Nat.reduceEqDiff, Nat.reduceAdd, Nat.reduceMul, Nat.reduceSub, Nat.reduceLeDiff, Nat.reduceLT, Int.reduceLT, Int.reduceLE, Int.reduceEq, Int.reduceToNat, Int.reduceAdd, Int.reduceSub, Int.reduceNeg, Int.reduceBEq, Int.reduceBNe, Nat.reduceBEq, Int.cast_ofNat_Int, decide_true, decide_false, ne_eq, eq_self_iff_true, beq_eq_false_iff_ne, bne_iff_ne, List.replicate, encLv, List.map_nil, *]
                     done)
                | ((with_reducible refine of_kSpec ?_); refine call_fz (spec25) rfl ?_)
                | (with_reducible refine ite_in (fun _ => ?_) (fun _ => ?_))
                | (with_reducible refine ⟨fun _ => ?_, fun _ => ?_⟩)
                | (with_reducible refine And.intro ?_ ?_)
                | (with_reducible intro _)
                | (with_reducible exact is_in _)
                | (simp -implicitDefEqProofs only [SD, SF, SL, e_nf, reduceCtorEq, implies_true, ↓reduceIte, Nat.reduceEqDiff, Nat.reduceAdd, Nat.reduceMul, Nat.reduceSub, Nat.reduceLeDiff, Nat.reduceLT, Int.reduceLT, Int.reduceLE, Int.reduceEq, Int.reduceToNat, Int.reduceAdd, Int.reduceSub, Int.reduceNeg, Int.reduceBEq, Int.reduceBNe, Nat.reduceBEq, Int.cast_ofNat_Int, decide_true, decide_false, ne_eq, eq_self_iff_true, beq_eq_false_iff_ne, bne_iff_ne, List.replicate, encLv, List.reverse_nil, *]))))
              all_goals (first | (simp_all; done))
          · simp only [List.concat_eq_append] at *
            have hzb : (v.kinds).length = psb.length + 1 + sufb.length := by rw [heb]; simp; omega
            have hi : ((((psb ++ [x0b]).length : Nat) : Int) - 1) = psb.length := by simp
            have hnn : (0 : Int) ≤ (psb.length : Int) := by omega
            have hx0b : (List.map encLK (v.kinds)).getD psb.length [] = [.int .i64 x0b.kind, .int .i64 x0b.n] := by
              have := cutD encLK (es := v.kinds) (pre := psb) (x := x0b) (rest := sufb) (by rw [heb]; simp)
              simpa [encLK] using this
            have hlt0 : (psb.length : Int) < (v.kinds).length := by omega
            have hw0 : IntKind.i64.wrap ((psb.length : Int) - 1) = (psb.length : Int) - 1 := wrap_in (by omega) (by omega)
            have hz6 : sufb.length + 1 ≤ maxLen := by simp only [maxLen]; omega
            have hz7 : (sufb.length + 1) * 24 ≤ 140737488355328 := by omega
            have hz8 : (sufb.length + 1) * 16 ≤ 140737488355328 := by omega
            have hz9 : (sufb.reverse.map encLK).length = sufb.length := by simp
            replace heb := Hd.mk heb
            replace hzb := Hd.mk hzb
            rcases h5b with ⟨h5b, rfl⟩ | rfl
            case' inl => replace h5b := Hd.mk h5b
            all_goals (
              iterate 10 (all_goals (try (first
                | (with_reducible refine ite_in (fun _ => ?_) (fun _ => ?_))
                | (with_reducible refine ⟨fun _ => ?_, fun _ => ?_⟩)
                | (with_reducible refine And.intro ?_ ?_)
                | (with_reducible intro _)
                | (with_reducible exact is_in _)
                | (simp -implicitDefEqProofs only [SD, SF, SL, e_nf, reduceCtorEq, implies_true, ↓reduceIte, Nat.reduceEqDiff, Nat.reduceAdd, Nat.reduceMul, Nat.reduceSub, Nat.reduceLeDiff, Nat.reduceLT, Int.reduceLT, Int.reduceLE, Int.reduceEq, Int.reduceToNat, Int.reduceAdd, Int.reduceSub, Int.reduceNeg, Int.reduceBEq, Int.reduceBNe, Nat.reduceBEq, Int.cast_ofNat_Int, decide_true, decide_false, ne_eq, eq_self_iff_true, beq_eq_false_iff_ne, bne_iff_ne, List.replicate, encLv, *]))))
              refine loop_q (X := List LK × List LK × Unit) (fun n x => psb = x.1 ++ x.2.1 ∧ n = x.2.1.length ∧ (∀ a ∈ x.1, a.kind ≠ x0b.kind)) (fun x => [(11, .int .i64 x.1.length)]) (fun _ => []) [6, 75, 76, 77, 78, 79, 80, 81, 82, 83, 84, 85, 86, 87, 88, 89, 90, 91, 92, 93] []  (psb).length ([], psb, ()) ⟨rfl, rfl, by simp⟩ ?_ ?_
              · simp -implicitDefEqProofs only [SD, SF, SL, e_nf, reduceCtorEq, implies_true, ↓reduceIte, Nat.reduceEqDiff, Nat.reduceAdd, Nat.reduceMul, Nat.reduceSub, Nat.reduceLeDiff, Nat.reduceLT, Int.reduceLT, Int.reduceLE, Int.reduceEq, Int.reduceToNat, Int.reduceAdd, Int.reduceSub, Int.reduceNeg, Int.reduceBEq, Int.reduceBNe, Nat.reduceBEq, Int.cast_ofNat_Int, decide_true, decide_false, ne_eq, eq_self_iff_true, beq_eq_false_iff_ne, bne_iff_ne, List.replicate, encLv] <;> simp
              · rintro n ⟨pre9b, rest9b, a9b⟩ ⟨he9b, rfl, hI9b⟩
                dsimp only at he9b hI9b
                cases rest9b with
                | nil =>
                  obtain rfl : psb = pre9b := by simpa using he9b
                  clear he9b
                  have hlt9b : ¬ (((psb).length : Int) < ((psb).length : Int)) := Int.lt_irrefl _
                  iterate 34 (all_goals (try (first
                    | ((with_reducible refine back_in psb.length [6, 11, 71, 72, 73, 74, 75, 76, 77, 78, 79, 80, 81, 82, 83, 84, 85, 86, 87, 88, 89, 90, 91, 92, 93, 94, 95, 96, 97, 98, 99, 100, 101, 102, 103] [101] (psb, x0b :: sufb, (DV.ow 102, [(102, Blk.vec 61 2 [[.int .i64 x0b.kind, .int .i64 x0b.n]])])) ?_ ⟨?_, ?_, ?_, ?_, ?_⟩ ?_)
                       · simp
                       · rw [heb.out]; simp
                       · rfl
                       · exact List.pairwise_cons.2 ⟨fun b hb => h4b x0b (by simp) b hb, h3b⟩
                       · intro a ha b hb
                         rcases List.mem_cons.1 hb with rfl | hb
                         · exact hI9b a ha
                         · exact h4b a (by simp [ha]) b hb
                       · right; rw [h5b.out]; rfl
                       · first | (simp -implicitDefEqProofs only [SD, SF, SL, e_nf, reduceCtorEq, implies_true, ↓reduceIte, Nat.reduceEqDiff, Nat.reduceAdd, Nat.reduceMul, Nat.reduceSub, Nat.reduceLeDiff, Nat.reduceLT, Int.reduceLT, Int.reduceLE, Int.reduceEq, Int.reduceToNat, Int.reduceAdd, Int.reduceSub, Int.reduceNeg, Int.reduceBEq, Int.reduceBNe, Nat.reduceBEq, Int.cast_ofNat_Int, decide_true, decide_false, ne_eq, eq_self_iff_true, beq_eq_false_iff_ne, bne_iff_ne, List.replicate, encLv] <;> simp <;> done) | (simp -implicitDefEqProofs only [SD, SF, SL, e_nf, reduceCtorEq, implies_true, ↓reduceIte, Nat.reduceEqDiff, Nat.reduceAdd, Nat.reduceMul, Nat.reduceSub, Nat.reduceLeDiff, Nat.reduceLT, Int.reduceLT, Int.reduceLE, Int.reduceEq, Int.reduceToNat, Int.reduceAdd, Int.reduceSub, Int.reduceNeg, Int.reduceBEq, Int.reduceBNe, Nat.reduceBEq, Int.cast_ofNat_Int, decide_true, decide_false, ne_eq, eq_self_iff_true, beq_eq_false_iff_ne, bne_iff_ne, List.replicate, encLv, *] <;> simp_all <;> done))
                    | ((with_reducible refine back_in psb.length [6, 11, 71, 72, 73, 74, 75, 76, 77, 78, 79, 80, 81, 82, 83, 84, 85, 86, 87, 88, 89, 90, 91, 92, 93, 94, 95, 96, 97, 98, 99, 100, 101, 102, 103] [101] (psb, x0b :: sufb, (DV.ow 102, [(102, Blk.vec 61 2 (sufb.reverse.map encLK ++ [[.int .i64 x0b.kind, .int .i64 x0b.n]]))])) ?_ ⟨?_, ?_, ?_, ?_, ?_⟩ ?_)
                       · simp
                       · rw [heb.out]; simp
                       · rfl
                       · exact List.pairwise_cons.2 ⟨fun b hb => h4b x0b (by simp) b hb, h3b⟩
                       · intro a ha b hb
                         rcases List.mem_cons.1 hb with rfl | hb
                         · exact hI9b a ha
                         · exact h4b a (by simp [ha]) b hb
                       · right; simp [encLK]
                       · first | (simp -implicitDefEqProofs only [SD, SF, SL, e_nf, reduceCtorEq, implies_true, ↓reduceIte, Nat.reduceEqDiff, Nat.reduceAdd, Nat.reduceMul, Nat.reduceSub, Nat.reduceLeDiff, Nat.reduceLT, Int.reduceLT, Int.reduceLE, Int.reduceEq, Int.reduceToNat, Int.reduceAdd, Int.reduceSub, Int.reduceNeg, Int.reduceBEq, Int.reduceBNe, Nat.reduceBEq, Int.cast_ofNat_Int, decide_true, decide_false, ne_eq, eq_self_iff_true, beq_eq_false_iff_ne, bne_iff_ne, List.replicate, encLv] <;> simp <;> done) | (simp -implicitDefEqProofs only [SD, SF, SL, e_nf, reduceCtorEq, implies_true, ↓reduceIte, Nat.reduceEqDiff, Nat.reduceAdd, Nat.reduceMul, Nat.reduceSub, Nat.reduceLeDiff, Nat.reduceLT, Int.reduceLT, Int.reduceLE, Int.reduceEq, Int.reduceToNat, Int.reduceAdd, Int.reduceSub, Int.reduceNeg, Int.reduceBEq, Int.reduceBNe, Nat.reduceBEq, Int.cast_ofNat_Int, decide_true, decide_false, ne_eq, eq_self_iff_true, beq_eq_false_iff_ne, bne_iff_ne, List.replicate, encLv, *] <;> simp_all <;> done))
                    | (with_reducible refine ite_in (fun _ => ?_) (fun _ => ?_))
                    | (with_reducible refine ⟨fun _ => ?_, fun _ => ?_⟩)
                    | (with_reducible refine And.intro ?_ ?_)
                    | (with_reducible intro _)
                    | (with_reducible exact is_in _)
                    | (simp -implicitDefEqProofs only [SD, SF, SL, e_nf, reduceCtorEq, implies_true, ↓reduceIte, Nat.reduceEqDiff, Nat.reduceAdd, Nat.reduceMul, Nat.reduceSub, Nat.reduceLeDiff, Nat.reduceLT, Int.reduceLT, Int.reduceLE, Int.reduceEq, Int.reduceToNat, Int.reduceAdd, Int.reduceSub, Int.reduceNeg, Int.reduceBEq, Int.reduceBNe, Nat.reduceBEq, Int.cast_ofNat_Int, decide_true, decide_false, ne_eq, eq_self_iff_true, beq_eq_false_iff_ne, bne_iff_ne, List.replicate, encLv, *]))))
                  all_goals (first | (simp only [maxLen] at *; omega) | (simp only [List.length_map, List.length_reverse, List.length_append, List.length_cons, List.length_nil, maxLen]; omega))

                | cons x9b rest9b =>
                  have hlt9b := cut_lt he9b
                  have hlz9b := cut_lt' he9b
                  have hx9b := cutD encLK he9b
                  simp only [encLK] at hx9b
                  have hw9b := wrap_len (n := pre9b.length) (m := (psb).length) (cut_lt' he9b) (by have := hzb.out; simp only [maxLen]; omega)
                  replace he9b := Hd.mk he9b
                  have hx' : (List.map encLK v.kinds).getD pre9b.length [] = [.int .i64 x9b.kind, .int .i64 x9b.n] := by
                    have := cutD encLK (es := v.kinds) (pre := pre9b) (x := x9b) (rest := rest9b ++ x0b :: sufb) (by rw [heb.out, he9b.out]; simp)
                    simpa [encLK] using this
                  have hq : (pre9b.length : Int) < (v.kinds).length := by
                    have := hzb.out
                    omega
                  clear hx9b
                  iterate 30 (all_goals (try (first
                    | ((with_reducible refine back_in rest9b.length [6, 75, 76, 77, 78, 79, 80, 81, 82, 83, 84, 85, 86, 87, 88, 89, 90, 91, 92, 93] [] (pre9b ++ [x9b], rest9b, a9b) ?_ ⟨?_, ?_, ?_⟩ ?_)
                       · simp
                       · exact cut_snoc he9b.out
                       · rfl
                       · first | (simp; done) | (intro a ha; rcases List.mem_append.1 ha with h | h; exact hI9b a h; simp at h; subst h; assumption)
                       · first | (simp -implicitDefEqProofs only [SD, SF, SL, e_nf, reduceCtorEq, implies_true, ↓reduceIte, Nat.reduceEqDiff, Nat.reduceAdd, Nat.reduceMul, Nat.reduceSub, Nat.reduceLeDiff, Nat.reduceLT, Int.reduceLT, Int.reduceLE, Int.reduceEq, Int.reduceToNat, Int.reduceAdd, Int.reduceSub, Int.reduceNeg, Int.reduceBEq, Int.reduceBNe, Nat.reduceBEq, Int.cast_ofNat_Int, decide_true, decide_false, ne_eq, eq_self_iff_true, beq_eq_false_iff_ne, bne_iff_ne, List.replicate, encLv] <;> simp <;> done) | (simp -implicitDefEqProofs only [SD, SF, SL, e_nf, reduceCtorEq, implies_true, ↓reduceIte, Nat.reduceEqDiff, Nat.reduceAdd, Nat.reduceMul, Nat.reduceSub, Nat.reduceLeDiff, Nat.reduceLT, Int.reduceLT, Int.reduceLE, Int.reduceEq, Int.reduceToNat, Int.reduceAdd, Int.reduceSub, Int.reduceNeg, Int.reduceBEq, Int.reduceBNe, Nat.reduceBEq, Int.cast_ofNat_Int, decide_true, decide_false, ne_eq, eq_self_iff_true, beq_eq_false_iff_ne, bne_iff_ne, List.replicate, encLv, *] <;> simp_all <;> done))
                    | ((with_reducible refine of_kSpec ?_); refine call_fz (spec25) rfl ?_)
                    | (with_reducible refine ite_in (fun _ => ?_) (fun _ => ?_))
                    | (with_reducible refine ⟨fun _ => ?_, fun _ => ?_⟩)
                    | (with_reducible refine And.intro ?_ ?_)
                    | (with_reducible intro _)
                    | (with_reducible exact is_in _)
                    | (simp -implicitDefEqProofs only [SD, SF, SL, e_nf, reduceCtorEq, implies_true, ↓reduceIte, Nat.reduceEqDiff, Nat.reduceAdd, Nat.reduceMul, Nat.reduceSub, Nat.reduceLeDiff, Nat.reduceLT, Int.reduceLT, Int.reduceLE, Int.reduceEq, Int.reduceToNat, Int.reduceAdd, Int.reduceSub, Int.reduceNeg, Int.reduceBEq, Int.reduceBNe, Nat.reduceBEq, Int.cast_ofNat_Int, decide_true, decide_false, ne_eq, eq_self_iff_true, beq_eq_false_iff_ne, bne_iff_ne, List.replicate, encLv, *])))))

    · simp only [List.concat_eq_append] at *
      have hza : (v.users).length = psa.length + 1 + sufa.length := by rw [hea]; simp; omega
      have hi : ((((psa ++ [x0a]).length : Nat) : Int) - 1) = psa.length := by simp
      have hnn : (0 : Int) ≤ (psa.length : Int) := by omega
      have hx0a : (List.map encLU (v.users)).getD psa.length [] = [.str x0a.user, .int .i64 x0a.n] := by
        have := cutD encLU (es := v.users) (pre := psa) (x := x0a) (rest := sufa) (by rw [hea]; simp)
        simpa [encLU] using this
      have hlt0 : (psa.length : Int) < (v.users).length := by omega
      have hw0 : IntKind.i64.wrap ((psa.length : Int) - 1) = (psa.length : Int) - 1 := wrap_in (by omega) (by omega)
      have hz6 : sufa.length + 1 ≤ maxLen := by simp only [maxLen]; omega
      have hz7 : (sufa.length + 1) * 24 ≤ 140737488355328 := by omega
      have hz8 : (sufa.length + 1) * 16 ≤ 140737488355328 := by omega
      have hz9 : (sufa.reverse.map encLU).length = sufa.length := by simp
      replace hea := Hd.mk hea
      replace hza := Hd.mk hza
      rcases h5a with ⟨h5a, rfl⟩ | rfl
      case' inl => replace h5a := Hd.mk h5a
      all_goals (
        iterate 10 (all_goals (try (first
          | (with_reducible refine ite_in (fun _ => ?_) (fun _ => ?_))
          | (with_reducible refine ⟨fun _ => ?_, fun _ => ?_⟩)
          | (with_reducible refine And.intro ?_ ?_)
          | (with_reducible intro _)
          | (with_reducible exact is_in _)
          | (simp -implicitDefEqProofs only [SD, SF, SL, e_nf, reduceCtorEq, implies_true, ↓reduceIte, Nat.reduceEqDiff, Nat.reduceAdd, Nat.reduceMul, Nat.reduceSub, Nat.reduceLeDiff, Nat.reduceLT, Int.reduceLT, Int.reduceLE, Int.reduceEq, Int.reduceToNat, Int.reduceAdd, Int.reduceSub, Int.reduceNeg, Int.reduceBEq, Int.reduceBNe, Nat.reduceBEq, Int.cast_ofNat_Int, decide_true, decide_false, ne_eq, eq_self_iff_true, beq_eq_false_iff_ne, bne_iff_ne, List.replicate, encLv, *]))))
        refine loop_q (X := List LU × List LU × Unit) (fun n x => psa = x.1 ++ x.2.1 ∧ n = x.2.1.length ∧ (∀ a ∈ x.1, a.user ≠ x0a.user)) (fun x => [(9, .int .i64 x.1.length)]) (fun _ => []) [6, 38, 39, 40, 41, 42, 43, 44, 45, 46, 47, 48, 49, 50, 51, 52, 53, 54, 55, 56] []  (psa).length ([], psa, ()) ⟨rfl, rfl, by simp⟩ ?_ ?_
        · simp -implicitDefEqProofs only [SD, SF, SL, e_nf, reduceCtorEq, implies_true, ↓reduceIte, Nat.reduceEqDiff, Nat.reduceAdd, Nat.reduceMul, Nat.reduceSub, Nat.reduceLeDiff, Nat.reduceLT, Int.reduceLT, Int.reduceLE, Int.reduceEq, Int.reduceToNat, Int.reduceAdd, Int.reduceSub, Int.reduceNeg, Int.reduceBEq, Int.reduceBNe, Nat.reduceBEq, Int.cast_ofNat_Int, decide_true, decide_false, ne_eq, eq_self_iff_true, beq_eq_false_iff_ne, bne_iff_ne, List.replicate, encLv] <;> simp
        · rintro n ⟨pre9a, rest9a, a9a⟩ ⟨he9a, rfl, hI9a⟩
          dsimp only at he9a hI9a
          cases rest9a with
          | nil =>
            obtain rfl : psa = pre9a := by simpa using he9a
            clear he9a
            have hlt9a : ¬ (((psa).length : Int) < ((psa).length : Int)) := Int.lt_irrefl _
            iterate 34 (all_goals (try (first
              | ((with_reducible refine back_in psa.length [6, 9, 34, 35, 36, 37, 38, 39, 40, 41, 42, 43, 44, 45, 46, 47, 48, 49, 50, 51, 52, 53, 54, 55, 56, 57, 58, 59, 60, 61, 62, 63, 64, 65, 66] [64] (psa, x0a :: sufa, (DV.ow 65, [(65, Blk.vec 58 2 [[.str x0a.user, .int .i64 x0a.n]])])) ?_ ⟨?_, ?_, ?_, ?_, ?_⟩ ?_)
                 · simp
                 · rw [hea.out]; simp
                 · rfl
                 · exact List.pairwise_cons.2 ⟨fun b hb => h4a x0a (by simp) b hb, h3a⟩
                 · intro a ha b hb
                   rcases List.mem_cons.1 hb with rfl | hb
                   · exact hI9a a ha
                   · exact h4a a (by simp [ha]) b hb
                 · right; rw [h5a.out]; rfl
                 · first | (simp -implicitDefEqProofs only [SD, SF, SL, e_nf, reduceCtorEq, implies_true, ↓reduceIte, Nat.reduceEqDiff, Nat.reduceAdd, Nat.reduceMul, Nat.reduceSub, Nat.reduceLeDiff, Nat.reduceLT, Int.reduceLT, Int.reduceLE, Int.reduceEq, Int.reduceToNat, Int.reduceAdd, Int.reduceSub, Int.reduceNeg, Int.reduceBEq, Int.reduceBNe, Nat.reduceBEq, Int.cast_ofNat_Int, decide_true, decide_false, ne_eq, eq_self_iff_true, beq_eq_false_iff_ne, bne_iff_ne, List.replicate, encLv] <;> simp <;> done) | (simp -implicitDefEqProofs only [SD, SF, SL, e_nf, reduceCtorEq, implies_true, ↓reduceIte, Nat.reduceEqDiff, Nat.reduceAdd, Nat.reduceMul, Nat.reduceSub, Nat.reduceLeDiff, Nat.reduceLT, Int.reduceLT, Int.reduceLE, Int.reduceEq, Int.reduceToNat, Int.reduceAdd, Int.reduceSub, Int.reduceNeg, Int.reduceBEq, Int.reduceBNe, Nat.reduceBEq, Int.cast_ofNat_Int, decide_true, decide_false, ne_eq, eq_self_iff_true, beq_eq_false_iff_ne, bne_iff_ne, List.replicate, encLv, *] <;> simp_all <;> done))
              | ((with_reducible refine back_in psa.length [6, 9, 34, 35, 36, 37, 38, 39, 40, 41, 42, 43, 44, 45, 46, 47, 48, 49, 50, 51, 52, 53, 54, 55, 56, 57, 58, 59, 60, 61, 62, 63, 64, 65, 66] [64] (psa, x0a :: sufa, (DV.ow 65, [(65, Blk.vec 58 2 (sufa.reverse.map encLU ++ [[.str x0a.user, .int .i64 x0a.n]]))])) ?_ ⟨?_, ?_, ?_, ?_, ?_⟩ ?_)
                 · simp
                 · rw [hea.out]; simp
                 · rfl
                 · exact List.pairwise_cons.2 ⟨fun b hb => h4a x0a (by simp) b hb, h3a⟩
                 · intro a ha b hb
                   rcases List.mem_cons.1 hb with rfl | hb
                   · exact hI9a a ha
                   · exact h4a a (by simp [ha]) b hb
                 · right; simp [encLU]
                 · first | (simp -implicitDefEqProofs only [SD, SF, SL, e_nf, reduceCtorEq, implies_true, ↓reduceIte, Nat.reduceEqDiff, Nat.reduceAdd, Nat.reduceMul, Nat.reduceSub, Nat.reduceLeDiff, Nat.reduceLT, Int.reduceLT, Int.reduceLE, Int.reduceEq, Int.reduceToNat, Int.reduceAdd, Int.reduceSub, Int.reduceNeg, Int.reduceBEq, Int.reduceBNe, Nat.reduceBEq, Int.cast_ofNat_Int, decide_true, decide_false, ne_eq, eq_self_iff_true, beq_eq_false_iff_ne, bne_iff_ne, List.replicate, encLv] <;> simp <;> done) | (simp -implicitDefEqProofs only [SD, SF, SL, e_nf, reduceCtorEq, implies_true, ↓reduceIte, Nat.reduceEqDiff, Nat.reduceAdd, Nat.reduceMul, Nat.reduceSub, Nat.reduceLeDiff, Nat.reduceLT, Int.reduceLT, Int.reduceLE, Int.reduceEq, Int.reduceToNat, Int.reduceAdd, Int.reduceSub, Int.reduceNeg, Int.reduceBEq, Int.reduceBNe, Nat.reduceBEq, Int.cast_ofNat_Int, decide_true, decide_false, ne_eq, eq_self_iff_true, beq_eq_false_iff_ne, bne_iff_ne, List.replicate, encLv, *] <;> simp_all <;> done))
              | (with_reducible refine ite_in (fun _ => ?_) (fun _ => ?_))
              | (with_reducible refine ⟨fun _ => ?_, fun _ => ?_⟩)
              | (with_reducible refine And.intro ?_ ?_)
              | (with_reducible intro _)
              | (with_reducible exact is_in _)
              | (simp -implicitDefEqProofs only [SD, SF, SL, e_nf, reduceCtorEq, implies_true, ↓reduceIte, Nat.reduceEqDiff, Nat.reduceAdd, Nat.reduceMul, Nat.reduceSub, Nat.reduceLeDiff, Nat.reduceLT, Int.reduceLT, Int.reduceLE, Int.reduceEq, Int.reduceToNat, Int.reduceAdd, Int.reduceSub, Int.reduceNeg, Int.reduceBEq, Int.reduceBNe, Nat.reduceBEq, Int.cast_ofNat_Int, decide_true, decide_false, ne_eq, eq_self_iff_true, beq_eq_false_iff_ne, bne_iff_ne, List.replicate, encLv, *]))))
            all_goals (first | (simp only [maxLen] at *; omega) | (simp only [List.length_map, List.length_reverse, List.length_append, List.length_cons, List.length_nil, maxLen]; omega))

          | cons x9a rest9a =>
            have hlt9a := cut_lt he9a
            have hlz9a := cut_lt' he9a
            have hx9a := cutD encLU he9a
            simp only [encLU] at hx9a
            have hw9a := wrap_len (n := pre9a.length) (m := (psa).length) (cut_lt' he9a) (by have := hza.out; simp only [maxLen]; omega)
            replace he9a := Hd.mk he9a
            have hx' : (List.map encLU v.users).getD pre9a.length [] = [.str x9a.user, .int .i64 x9a.n] := by
              have := cutD encLU (es := v.users) (pre := pre9a) (x := x9a) (rest := rest9a ++ x0a :: sufa) (by rw [hea.out, he9a.out]; simp)
              simpa [encLU] using this
            have hq : (pre9a.length : Int) < (v.users).length := by
              have := hza.out
              omega
            clear hx9a
            iterate 30 (all_goals (try (first
              | ((with_reducible refine back_in rest9a.length [6, 38, 39, 40, 41, 42, 43, 44, 45, 46, 47, 48, 49, 50, 51, 52, 53, 54, 55, 56] [] (pre9a ++ [x9a], rest9a, a9a) ?_ ⟨?_, ?_, ?_⟩ ?_)
                 · simp
                 · exact cut_snoc he9a.out
                 · rfl
                 · first | (simp; done) | (intro a ha; rcases List.mem_append.1 ha with h | h; exact hI9a a h; simp at h; subst h; assumption)
                 · first | (simp -implicitDefEqProofs only [SD, SF, SL, e_nf, reduceCtorEq, implies_true, ↓reduceIte, Nat.reduceEqDiff, Nat.reduceAdd, Nat.reduceMul, Nat.reduceSub, Nat.reduceLeDiff, Nat.reduceLT, Int.reduceLT, Int.reduceLE, Int.reduceEq, Int.reduceToNat, Int.reduceAdd, Int.reduceSub, Int.reduceNeg, Int.reduceBEq, Int.reduceBNe, Nat.reduceBEq, Int.cast_ofNat_Int, decide_true, decide_false, ne_eq, eq_self_iff_true, beq_eq_false_iff_ne, bne_iff_ne, List.replicate, encLv] <;> simp <;> done) | (simp -implicitDefEqProofs only [SD, SF, SL, e_nf, reduceCtorEq, implies_true, ↓reduceIte, Nat.reduceEqDiff, Nat.reduceAdd, Nat.reduceMul, Nat.reduceSub, Nat.reduceLeDiff, Nat.reduceLT, Int.reduceLT, Int.reduceLE, Int.reduceEq, Int.reduceToNat, Int.reduceAdd, Int.reduceSub, Int.reduceNeg, Int.reduceBEq, Int.reduceBNe, Nat.reduceBEq, Int.cast_ofNat_Int, decide_true, decide_false, ne_eq, eq_self_iff_true, beq_eq_false_iff_ne, bne_iff_ne, List.replicate, encLv, *] <;> simp_all <;> done))
              | ((with_reducible refine of_kSpec ?_); refine call_fz (spec25) rfl ?_)
              | (with_reducible refine ite_in (fun _ => ?_) (fun _ => ?_))
              | (with_reducible refine ⟨fun _ => ?_, fun _ => ?_⟩)
              | (with_reducible refine And.intro ?_ ?_)
              | (with_reducible intro _)
              | (with_reducible exact is_in _)
              | (simp -implicitDefEqProofs only [SD, SF, SL, e_nf, reduceCtorEq, implies_true, ↓reduceIte, Nat.reduceEqDiff, Nat.reduceAdd, Nat.reduceMul, Nat.reduceSub, Nat.reduceLeDiff, Nat.reduceLT, Int.reduceLT, Int.reduceLE, Int.reduceEq, Int.reduceToNat, Int.reduceAdd, Int.reduceSub, Int.reduceNeg, Int.reduceBEq, Int.reduceBNe, Nat.reduceBEq, Int.cast_ofNat_Int, decide_true, decide_false, ne_eq, eq_self_iff_true, beq_eq_false_iff_ne, bne_iff_ne, List.replicate, encLv, *])))))


end Go.Proofs.Ythackanfbemabaa.E
