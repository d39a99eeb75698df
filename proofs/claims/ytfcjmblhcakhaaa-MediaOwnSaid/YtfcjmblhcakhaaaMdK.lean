/-
  MdK: walks of functions of the program at data level.
-/
import Derived.Test.YtfcjmblhcakhaaaProg
import Derived.Test.YtfcjmblhcakhaaaEngZ
import Derived.Test.YtfcjmblhcakhaaaMdJ
import Derived.KernelRfl
set_option linter.unusedVariables false
set_option linter.unusedSimpArgs false
namespace Go.Proofs.Ytfcjmblhcakhaaa.E
open Go
set_option maxHeartbeats 4000000
set_option maxRecDepth 100000
set_option linter.unusedSimpArgs false
set_option linter.unusedVariables false
attribute [local congr] c_wp c_ops c_op c_opS c_run c_runS c_dt c_seq c_blk c_loop c_S c_put c_bind c_mv c_pick c_nt c_ng c_bin c_binI c_binS c_beq c_B c_eqa c_hd c_cells c_blkK c_box c_vec c_mp c_mkm c_mput c_mlk c_mrm c_take c_ld c_ldF c_cellsK c_st c_fld c_fldv c_ix c_ixp c_ixv c_ixs c_sub c_subs c_len c_lens c_src c_dst c_ow c_app c_ext c_mm c_conv c_str c_isn c_fill c_rows c_boxo c_frz c_frzO c_frzA c_frzV c_spec c_specO c_opsP c_opP c_runP c_specP c_Z c_qretP c_fz c_fn c_gv c_cond c_res1 c_resL c_ret c_qret c_ite c_unr c_nx c_bk c_cut c_is
attribute [local irreducible] dwp

def mx0 (age : Int) : Int := if 0 > age then 0 else age
def oldB (own : List UInt8) (now age : Int) (m : Md) : Bool := decide (m.server ≠ own ∧ now > m.time ∧ IntKind.i64.wrap (now - m.time) > age)
def exM (own : List UInt8) (now age : Int) (m : Md) : Md := if m.st = 1 ∧ oldB own now age m = true then { m with st := 3 } else m
def expR (l : List Md) (own : List UInt8) (now age : Int) : List Md := if chkL l ≠ 0 then l else l.map (exM own now (mx0 age))
def ents (p : Md → Bool) : Nat → List Md → List (DV × DV)
  | _, [] => []
  | i, m :: r => if p m = true then (.int .i64 i, .bool true) :: ents p (i + 1) r else ents p (i + 1) r
theorem eqK_i (a b : Nat) : eqK (.pl .i) (.int .i64 (a : Int)) (.int .i64 (b : Int)) = decide (a = b) := by
  have h : (((a : Int) = (b : Int)) : Prop) = (a = b) := propext ⟨fun h => by omega, fun h => by omega⟩
  rw [Bool.eq_iff_iff]
  simp [eqK, eqKey, eqP]
  omega
theorem dec_no {p : Prop} [Decidable p] (h : ¬ p) : ¬ (decide p = true) := by simpa using h
theorem lk_ents (p : Md → Bool) : ∀ (l : List Md) (i n : Nat), n < i → mpLk (.pl .i) (ents p i l) (.int .i64 (n : Int)) = none
  | [], _, _, _ => rfl
  | m :: r, i, n, h => by
    unfold ents
    split
    · rw [mpLk, eqK_i, if_neg (dec_no (by omega))]
      exact lk_ents p r (i + 1) n (by omega)
    · exact lk_ents p r (i + 1) n (by omega)
theorem lk_at (p : Md → Bool) (x : Md) (rest : List Md) : ∀ (pre : List Md) (i : Nat), mpLk (.pl .i) (ents p i (pre ++ x :: rest)) (.int .i64 ((i + pre.length : Nat) : Int)) = if p x = true then some (.bool true) else none
  | [], i => by
    rw [List.nil_append]
    unfold ents
    simp only [List.length_nil, Nat.add_zero]
    split
    · rw [mpLk, eqK_i, if_pos (by simp)]
    · exact lk_ents p rest (i + 1) i (by omega)
  | y :: pre, i => by
    have ih := lk_at p x rest pre (i + 1)
    have e : i + 1 + pre.length = i + (y :: pre).length := by rw [List.length_cons]; omega
    rw [e] at ih
    rw [List.cons_append]
    unfold ents
    split
    · rw [mpLk, eqK_i, if_neg (dec_no (by rw [List.length_cons]; omega))]
      exact ih
    · exact ih
theorem put_at (p : Md → Bool) (n : Nat) (v : DV) : ∀ (l : List Md) (i : Nat), i + l.length ≤ n → mpPut (.pl .i) (ents p i l) (.int .i64 (n : Int)) v = ents p i l ++ [(.int .i64 n, v)]
  | [], _, _ => rfl
  | m :: r, i, h => by
    rw [List.length_cons] at h
    unfold ents
    split
    · rw [mpPut, eqK_i, if_neg (dec_no (by omega)), put_at p n v r (i + 1) (by omega)]
      rfl
    · exact put_at p n v r (i + 1) (by omega)
theorem ents_snoc (p : Md → Bool) (x : Md) : ∀ (l : List Md) (i : Nat), ents p i (l ++ [x]) = if p x = true then ents p i l ++ [(.int .i64 ((i + l.length : Nat) : Int), .bool true)] else ents p i l
  | [], i => by simp [ents]
  | m :: r, i => by
    rw [List.cons_append]
    unfold ents
    rw [ents_snoc p x r (i + 1)]
    have e : i + 1 + r.length = i + (m :: r).length := by rw [List.length_cons]; omega
    rw [e]
    split <;> split <;> rfl
theorem rem_skip (p : Md → Bool) (n : Nat) (B : List (DV × DV)) : ∀ (l : List Md) (i : Nat), i + l.length ≤ n → mpRem (.pl .i) (ents p i l ++ B) (.int .i64 (n : Int)) = ents p i l ++ mpRem (.pl .i) B (.int .i64 (n : Int))
  | [], _, _ => rfl
  | m :: r, i, h => by
    rw [List.length_cons] at h
    unfold ents
    split
    · rw [List.cons_append, mpRem, eqK_i, if_neg (dec_no (by omega)), rem_skip p n B r (i + 1) (by omega)]
      rfl
    · exact rem_skip p n B r (i + 1) (by omega)
theorem lk_skip (p : Md → Bool) (n : Nat) (B : List (DV × DV)) : ∀ (l : List Md) (i : Nat), i + l.length ≤ n → mpLk (.pl .i) (ents p i l ++ B) (.int .i64 (n : Int)) = mpLk (.pl .i) B (.int .i64 (n : Int))
  | [], _, _ => rfl
  | m :: r, i, h => by
    rw [List.length_cons] at h
    unfold ents
    split
    · rw [List.cons_append, mpLk, eqK_i, if_neg (dec_no (by omega)), lk_skip p n B r (i + 1) (by omega)]
    · exact lk_skip p n B r (i + 1) (by omega)
def prM (m : Md) : Bool := decide (m.st = 1)
def stM (own : List UInt8) (now age : Int) (m : Md) : Bool := decide (m.st = 1) && !oldB own now age m
def entQ (own : List UInt8) (now age : Int) (pre rest : List Md) : List (DV × DV) := ents (stM own now age) 0 pre ++ ents prM pre.length rest
theorem entQ_nil (own : List UInt8) (now age : Int) (l : List Md) : entQ own now age [] l = ents prM 0 l := rfl
theorem entQ_end (own : List UInt8) (now age : Int) (l : List Md) : entQ own now age l [] = ents (stM own now age) 0 l := by simp [entQ, ents]
theorem entQ_lk (own : List UInt8) (now age : Int) (pre : List Md) (x : Md) (rest : List Md) : mpLk (.pl .i) (entQ own now age pre (x :: rest)) (.int .i64 (pre.length : Int)) = if x.st = 1 then some (.bool true) else none := by
  unfold entQ
  rw [lk_skip _ _ _ _ _ (by omega)]
  have := lk_at prM x rest [] pre.length
  simpa [prM] using this
theorem entQ_rem (own : List UInt8) (now age : Int) (pre : List Md) (x : Md) (rest : List Md) (h1 : x.st = 1) (h2 : oldB own now age x = true) : mpRem (.pl .i) (entQ own now age pre (x :: rest)) (.int .i64 (pre.length : Int)) = entQ own now age (pre ++ [x]) rest := by
  unfold entQ
  rw [rem_skip _ _ _ _ _ (by omega), ents_snoc]
  conv => lhs; rhs; unfold ents
  simp [prM, stM, h1, h2, mpRem, eqK_i]
theorem entQ_keep (own : List UInt8) (now age : Int) (pre : List Md) (x : Md) (rest : List Md) (h : x.st = 1 → oldB own now age x = false) : entQ own now age (pre ++ [x]) rest = entQ own now age pre (x :: rest) := by
  unfold entQ
  rw [ents_snoc]
  conv => rhs; rhs; unfold ents
  by_cases h1 : x.st = 1
  · simp [prM, stM, h1, h h1]
  · simp [prM, stM, h1]
theorem entQ_or (own : List UInt8) (now age : Int) (pre : List Md) (x : Md) (rest : List Md) : (x.st = 1 ∧ (x.server ≠ own ∧ now > x.time ∧ IntKind.i64.wrap (now - x.time) > age) ∧ mpRem (.pl .i) (entQ own now age pre (x :: rest)) (.int .i64 (pre.length : Int)) = entQ own now age (pre ++ [x]) rest) ∨
    (x.st = 1 ∧ ¬ (x.server ≠ own ∧ now > x.time ∧ IntKind.i64.wrap (now - x.time) > age) ∧ entQ own now age (pre ++ [x]) rest = entQ own now age pre (x :: rest)) ∨ (¬ x.st = 1 ∧ entQ own now age (pre ++ [x]) rest = entQ own now age pre (x :: rest)) := by
  by_cases h1 : x.st = 1
  · by_cases h2 : x.server ≠ own ∧ now > x.time ∧ IntKind.i64.wrap (now - x.time) > age
    · exact .inl ⟨h1, h2, entQ_rem _ _ _ _ _ _ h1 (by simp only [oldB, decide_eq_true_eq]; exact h2)⟩
    · exact .inr (.inl ⟨h1, h2, entQ_keep _ _ _ _ _ _ fun _ => by simp only [oldB, decide_eq_false_iff_not]; exact h2⟩)
  · exact .inr (.inr ⟨h1, entQ_keep _ _ _ _ _ _ fun h => absurd h h1⟩)
theorem ents_lk (p : Md → Bool) {l pre : List Md} {x : Md} {rest : List Md} (he : l = pre ++ x :: rest) : mpLk (.pl .i) (ents p 0 l) (.int .i64 (pre.length : Int)) = if p x = true then some (.bool true) else none := by
  subst he
  have := lk_at p x rest pre 0
  simpa using this
theorem ents_put (pre : List Md) (x : Md) (h : x.st = 1) : mpPut (.pl .i) (ents prM 0 pre) (.int .i64 (pre.length : Int)) (.bool true) = ents prM 0 (pre ++ [x]) := by
  rw [put_at _ _ _ _ _ (by omega), ents_snoc]
  simp [prM, h]
theorem ents_not (pre : List Md) (x : Md) (h : ¬ x.st = 1) : ents prM 0 (pre ++ [x]) = ents prM 0 pre := by
  rw [ents_snoc]
  simp [prM, h]
theorem md_row {l a pre : List Md} {x : Md} {rest : List Md} (f : Md → Md) (he : l = pre ++ x :: rest) (ha : a = pre.map f ++ x :: rest) : a.length = l.length ∧ (a.map encMd).getD pre.length [] = encMd x ∧ (∀ y, (a.map encMd).set pre.length (encMd y) = (a.set pre.length y).map encMd) ∧ (f x = x → a = (pre ++ [x]).map f ++ rest) ∧ (∀ y, f x = y → a.set pre.length y = (pre ++ [x]).map f ++ rest) := by
  subst he ha
  refine ⟨by simp, ?_, ?_, ?_, ?_⟩
  · simp [List.getD]
  · intro y
    rw [List.map_set]
  · intro h
    simp [h]
  · intro y h
    simp [h, List.set_append]
def ac25 : AC := (.seq (.ops [⟨(some 8), none, (.mv (.c .e0))⟩]) (.seq (.ops [⟨(some 17), none, (.mv (.t 0))⟩, ⟨(some 18), none, (.call false 35 [(.t 17)])⟩, ⟨(some 9), none, (.mv (.t 18))⟩]) (.seq (.seq (.ops [⟨(some 19), none, (.mv (.t 0))⟩, ⟨(some 20), none, (.call false 13 [(.t 19)])⟩, ⟨(some 21), none, (.bin .neq (.t 20) (.c (.int .i64 0)))⟩]) (.cond (.t 21) (.seq (.ops [⟨(some 22), none, (.mv (.t 9))⟩, ⟨(some 8), none, (.mv (.t 22))⟩]) .ret) .skip)) (.seq (.ops [⟨(some 23), none, (.mv (.t 3))⟩, ⟨(some 24), none, (.mm true (.t 23) (.c (.int .i64 0)))⟩, ⟨(some 3), none, (.mv (.t 24))⟩]) (.seq (.ops [⟨(some 25), none, (.mkm (.pl .i) none)⟩, ⟨(some 10), none, (.mv (.t 25))⟩]) (.seq (.seq (.ops [⟨(some 26), none, (.mv (.t 0))⟩, ⟨(some 27), none, (.len (.t 26))⟩, ⟨(some 28), none, (.mv (.c (.int .i64 0)))⟩]) (.block 0 (.loop (.seq (.ops [⟨(some 29), none, (.bin .lss (.t 28) (.t 27))⟩]) (.seq (.cond (.t 29) .skip (.exit 0)) (.seq (.block 1 (.seq (.ops [⟨(some 30), none, (.mv (.t 28))⟩, ⟨(some 31), none, (.ix 5 (.t 26) (.t 28))⟩, ⟨(some 32), none, (.ld true 5 (.t 31))⟩, ⟨(some 12), none, (.alloc [(.str []), (.str []), (.int .i64 0), (.int .i64 0), (.int .i64 0)])⟩, ⟨(some 11), none, (.mv (.t 30))⟩, ⟨none, none, (.sto 5 (.t 12) (.t 32))⟩]) (.seq (.ops [⟨(some 33), none, (.fld 4 (.t 12))⟩, ⟨(some 34), none, (.ld false 1 (.t 33))⟩, ⟨(some 35), none, (.bin .eql (.t 34) (.c (.int .i64 1)))⟩]) (.cond (.t 35) (.ops [⟨(some 36), none, (.mv (.t 10))⟩, ⟨(some 37), none, (.mv (.t 11))⟩, ⟨none, none, (.mput (.pl .i) (.t 36) (.t 37) (.c (.bool true)))⟩]) .skip)))) (.ops [⟨(some 38), none, (.bin .add (.t 28) (.c (.int .i64 1)))⟩, ⟨(some 28), none, (.mv (.t 38))⟩]))))))) (.seq (.seq (.ops [⟨(some 39), none, (.mv (.t 0))⟩, ⟨(some 40), none, (.len (.t 39))⟩, ⟨(some 41), none, (.mv (.c (.int .i64 0)))⟩]) (.block 2 (.loop (.seq (.ops [⟨(some 42), none, (.bin .lss (.t 41) (.t 40))⟩]) (.seq (.cond (.t 42) .skip (.exit 2)) (.seq (.block 3 (.seq (.ops [⟨(some 43), none, (.mv (.t 41))⟩, ⟨(some 44), none, (.ix 5 (.t 39) (.t 41))⟩, ⟨(some 45), none, (.ld true 5 (.t 44))⟩, ⟨(some 14), none, (.alloc [(.str []), (.str []), (.int .i64 0), (.int .i64 0), (.int .i64 0)])⟩, ⟨(some 13), none, (.mv (.t 43))⟩, ⟨none, none, (.sto 5 (.t 14) (.t 45))⟩]) (.seq (.ops [⟨(some 46), none, (.mv (.t 10))⟩, ⟨(some 47), none, (.mv (.t 13))⟩, ⟨(some 48), none, (.mlk (.pl .i) (.bool false) (.t 46) (.t 47))⟩, ⟨(some 49), none, (.mv (.t 48))⟩, ⟨(some 50), (some (49, true)), (.fld 0 (.t 14))⟩, ⟨(some 51), (some (49, true)), (.ld false 1 (.t 50))⟩, ⟨(some 52), (some (49, true)), (.mv (.t 1))⟩, ⟨(some 53), (some (49, true)), (.bin .neq (.t 51) (.t 52))⟩, ⟨(some 54), none, (.pick (.t 49) (.t 53) (.c (.bool false)))⟩, ⟨(some 55), none, (.mv (.t 54))⟩, ⟨(some 56), (some (55, true)), (.mv (.t 2))⟩, ⟨(some 57), (some (55, true)), (.fld 3 (.t 14))⟩, ⟨(some 58), (some (55, true)), (.ld false 1 (.t 57))⟩, ⟨(some 59), (some (55, true)), (.bin .gtr (.t 56) (.t 58))⟩, ⟨(some 60), none, (.pick (.t 55) (.t 59) (.c (.bool false)))⟩, ⟨(some 61), none, (.mv (.t 60))⟩, ⟨(some 62), (some (61, true)), (.mv (.t 2))⟩, ⟨(some 63), (some (61, true)), (.fld 3 (.t 14))⟩, ⟨(some 64), (some (61, true)), (.ld false 1 (.t 63))⟩, ⟨(some 65), (some (61, true)), (.bin .sub (.t 62) (.t 64))⟩, ⟨(some 66), (some (61, true)), (.mv (.t 3))⟩, ⟨(some 67), (some (61, true)), (.bin .gtr (.t 65) (.t 66))⟩, ⟨(some 68), none, (.pick (.t 61) (.t 67) (.c (.bool false)))⟩]) (.cond (.t 68) (.ops [⟨(some 69), none, (.mv (.t 10))⟩, ⟨(some 70), none, (.mv (.t 13))⟩, ⟨none, none, (.mrm (.pl .i) (.t 69) (.t 70))⟩]) .skip)))) (.ops [⟨(some 71), none, (.bin .add (.t 41) (.c (.int .i64 1)))⟩, ⟨(some 41), none, (.mv (.t 71))⟩]))))))) (.seq (.seq (.ops [⟨(some 72), none, (.mv (.t 0))⟩, ⟨(some 73), none, (.len (.t 72))⟩, ⟨(some 74), none, (.mv (.c (.int .i64 0)))⟩]) (.block 4 (.loop (.seq (.ops [⟨(some 75), none, (.bin .lss (.t 74) (.t 73))⟩]) (.seq (.cond (.t 75) .skip (.exit 4)) (.seq (.block 5 (.seq (.ops [⟨(some 76), none, (.mv (.t 74))⟩, ⟨(some 77), none, (.ix 5 (.t 72) (.t 74))⟩, ⟨(some 78), none, (.ld true 5 (.t 77))⟩, ⟨(some 16), none, (.alloc [(.str []), (.str []), (.int .i64 0), (.int .i64 0), (.int .i64 0)])⟩, ⟨(some 15), none, (.mv (.t 76))⟩, ⟨none, none, (.sto 5 (.t 16) (.t 78))⟩]) (.seq (.ops [⟨(some 79), none, (.fld 4 (.t 16))⟩, ⟨(some 80), none, (.ld false 1 (.t 79))⟩, ⟨(some 81), none, (.bin .eql (.t 80) (.c (.int .i64 1)))⟩, ⟨(some 82), none, (.mv (.t 81))⟩, ⟨(some 83), (some (82, true)), (.mv (.t 10))⟩, ⟨(some 84), (some (82, true)), (.mv (.t 15))⟩, ⟨(some 85), (some (82, true)), (.mlk (.pl .i) (.bool false) (.t 83) (.t 84))⟩, ⟨(some 86), (some (82, true)), (.nt (.t 85))⟩, ⟨(some 87), none, (.pick (.t 82) (.t 86) (.c (.bool false)))⟩]) (.cond (.t 87) (.ops [⟨(some 88), none, (.mv (.t 9))⟩, ⟨(some 89), none, (.mv (.t 15))⟩, ⟨(some 90), none, (.ix 5 (.t 88) (.t 89))⟩, ⟨(some 91), none, (.fld 4 (.t 90))⟩, ⟨none, none, (.sto 1 (.t 91) (.c (.int .i64 3)))⟩]) .skip)))) (.ops [⟨(some 92), none, (.bin .add (.t 74) (.c (.int .i64 1)))⟩, ⟨(some 74), none, (.mv (.t 92))⟩]))))))) (.seq (.ops [⟨(some 93), none, (.mv (.t 9))⟩, ⟨(some 8), none, (.mv (.t 93))⟩]) .ret)))))))))
theorem tr25 : Try.f25.body.bind (trCode Try.prog) = some (strip ac25) := by kernel_rfl
theorem spec25 (l : List Md) (own : List UInt8) (now age : Int) (hb : l.length ≤ 1000) : Spec Try.prog 25 [.fz (.sl 5 (l.map encMd)), .fz (.str own), .fz (.int .i64 now), .fz (.int .i64 age)] (.fz (.sl 5 ((expR l own now age).map encMd))) := by
  refine spec_at (n := 90) (ars := [(.t 8)]) (ac := ac25) Try.func25 (by kernel_rfl) (by kernel_rfl) tr25 (by kernel_rfl) ?_
  unfold ac25
  iterate 12 (all_goals (try (first
    | ((with_reducible refine Or.inl (?_ : List.map _ _ = List.map _ _)); simp_all [expR]; done)
    | ((with_reducible refine of_kSpec ?_); refine call_fz (spec13 l) rfl ?_)
    | ((with_reducible refine of_kSpec ?_); refine call_ow (spec35 l hb) rfl ?_)
    | (with_reducible refine ite_in (fun _ => ?_) (fun _ => ?_))
    | (with_reducible refine ⟨fun _ => ?_, fun _ => ?_⟩)
    | (with_reducible refine And.intro ?_ ?_)
    | (with_reducible intro _)
    | (with_reducible exact is_in _)
    | ((with_reducible refine eq_in ?_); (simp_all [expR]); done)
    | (simp -implicitDefEqProofs only [SD, SF, SL, e_nf, reduceCtorEq, implies_true, ↓reduceIte, Nat.reduceEqDiff, Nat.reduceAdd, Nat.reduceMul, Nat.reduceSub, Nat.reduceLeDiff, Nat.reduceLT, Int.reduceLT, Int.reduceLE, Int.reduceEq, Int.reduceToNat, Int.reduceAdd, Int.reduceSub, Int.reduceNeg, Int.reduceBEq, Int.reduceBNe, Nat.reduceBEq, Int.cast_ofNat_Int, decide_true, decide_false, ne_eq, eq_self_iff_true, beq_eq_false_iff_ne, bne_iff_ne, List.replicate, encMd, *]))))
  rename_i hck hl1
  have hmx : (if 0 > age then 0 else age) = mx0 age := rfl
  refine loop_q (X := List Md × List Md × Unit) (fun n x => l = x.1 ++ x.2.1 ∧ n = x.2.1.length ∧ (True)) (fun x => [(28, .int .i64 x.1.length)]) (fun x => [(25, .mp (.pl .i) (ents prM 0 x.1))]) [11, 12, 29, 30, 31, 32, 33, 34, 35, 36, 37, 38] [12]  (l).length ([], l, ()) ⟨rfl, rfl, by trivial⟩ ?_ ?_
  · simp -implicitDefEqProofs only [SD, SF, SL, e_nf, reduceCtorEq, implies_true, ↓reduceIte, Nat.reduceEqDiff, Nat.reduceAdd, Nat.reduceMul, Nat.reduceSub, Nat.reduceLeDiff, Nat.reduceLT, Int.reduceLT, Int.reduceLE, Int.reduceEq, Int.reduceToNat, Int.reduceAdd, Int.reduceSub, Int.reduceNeg, Int.reduceBEq, Int.reduceBNe, Nat.reduceBEq, Int.cast_ofNat_Int, decide_true, decide_false, ne_eq, eq_self_iff_true, beq_eq_false_iff_ne, bne_iff_ne, List.replicate, encMd, ents] <;> simp
  · rintro n ⟨pre1, rest1, a1⟩ ⟨he1, rfl, hI1⟩
    dsimp only at he1 hI1
    cases rest1 with
    | nil =>
      obtain rfl : l = pre1 := by simpa using he1
      clear he1
      have hlt1 : ¬ (((l).length : Int) < ((l).length : Int)) := Int.lt_irrefl _
      iterate 30 (all_goals (try (first
        | (with_reducible refine ite_in (fun _ => ?_) (fun _ => ?_))
        | (with_reducible refine ⟨fun _ => ?_, fun _ => ?_⟩)
        | (with_reducible refine And.intro ?_ ?_)
        | (with_reducible intro _)
        | (with_reducible exact is_in _)
        | (simp -implicitDefEqProofs only [SD, SF, SL, e_nf, reduceCtorEq, implies_true, ↓reduceIte, Nat.reduceEqDiff, Nat.reduceAdd, Nat.reduceMul, Nat.reduceSub, Nat.reduceLeDiff, Nat.reduceLT, Int.reduceLT, Int.reduceLE, Int.reduceEq, Int.reduceToNat, Int.reduceAdd, Int.reduceSub, Int.reduceNeg, Int.reduceBEq, Int.reduceBNe, Nat.reduceBEq, Int.cast_ofNat_Int, decide_true, decide_false, ne_eq, eq_self_iff_true, beq_eq_false_iff_ne, bne_iff_ne, List.replicate, encMd, ents, *]))))
      refine loop_q (X := List Md × List Md × Unit) (fun n x => l = x.1 ++ x.2.1 ∧ n = x.2.1.length ∧ (True)) (fun x => [(41, .int .i64 x.1.length)]) (fun x => [(25, .mp (.pl .i) (entQ own now (mx0 age) x.1 x.2.1))]) [13, 14, 42, 43, 44, 45, 46, 47, 48, 49, 50, 51, 52, 53, 54, 55, 56, 57, 58, 59, 60, 61, 62, 63, 64, 65, 66, 67, 68, 69, 70, 71] [14]  (l).length ([], l, ()) ⟨rfl, rfl, by trivial⟩ ?_ ?_
      · simp -implicitDefEqProofs only [SD, SF, SL, e_nf, reduceCtorEq, implies_true, ↓reduceIte, Nat.reduceEqDiff, Nat.reduceAdd, Nat.reduceMul, Nat.reduceSub, Nat.reduceLeDiff, Nat.reduceLT, Int.reduceLT, Int.reduceLE, Int.reduceEq, Int.reduceToNat, Int.reduceAdd, Int.reduceSub, Int.reduceNeg, Int.reduceBEq, Int.reduceBNe, Nat.reduceBEq, Int.cast_ofNat_Int, decide_true, decide_false, ne_eq, eq_self_iff_true, beq_eq_false_iff_ne, bne_iff_ne, List.replicate, encMd, entQ_nil, entQ_end, Option.getD_some, Option.getD_none] <;> simp
      · rintro n ⟨pre2, rest2, a2⟩ ⟨he2, rfl, hI2⟩
        dsimp only at he2 hI2
        cases rest2 with
        | nil =>
          obtain rfl : l = pre2 := by simpa using he2
          clear he2
          have hlt2 : ¬ (((l).length : Int) < ((l).length : Int)) := Int.lt_irrefl _
          iterate 30 (all_goals (try (first
            | (with_reducible refine ite_in (fun _ => ?_) (fun _ => ?_))
            | (with_reducible refine ⟨fun _ => ?_, fun _ => ?_⟩)
            | (with_reducible refine And.intro ?_ ?_)
            | (with_reducible intro _)
            | (with_reducible exact is_in _)
            | (simp -implicitDefEqProofs only [SD, SF, SL, e_nf, reduceCtorEq, implies_true, ↓reduceIte, Nat.reduceEqDiff, Nat.reduceAdd, Nat.reduceMul, Nat.reduceSub, Nat.reduceLeDiff, Nat.reduceLT, Int.reduceLT, Int.reduceLE, Int.reduceEq, Int.reduceToNat, Int.reduceAdd, Int.reduceSub, Int.reduceNeg, Int.reduceBEq, Int.reduceBNe, Nat.reduceBEq, Int.cast_ofNat_Int, decide_true, decide_false, ne_eq, eq_self_iff_true, beq_eq_false_iff_ne, bne_iff_ne, List.replicate, encMd, entQ_nil, entQ_end, Option.getD_some, Option.getD_none, *]))))
          refine loop_q (X := List Md × List Md × List Md) (fun n x => l = x.1 ++ x.2.1 ∧ n = x.2.1.length ∧ (x.2.2 = x.1.map (exM own now (mx0 age)) ++ x.2.1)) (fun x => [(74, .int .i64 x.1.length)]) (fun x => [(18, .vec 26 5 (x.2.2.map encMd))]) [15, 16, 75, 76, 77, 78, 79, 80, 81, 82, 83, 84, 85, 86, 87, 88, 89, 90, 91, 92] [16]  (l).length ([], l, l) ⟨rfl, rfl, by first | rfl | (apply hr4; simp [exM, *]; done) | (apply hr5; simp [exM, *]; done)⟩ ?_ ?_
          · simp -implicitDefEqProofs only [SD, SF, SL, e_nf, reduceCtorEq, implies_true, ↓reduceIte, Nat.reduceEqDiff, Nat.reduceAdd, Nat.reduceMul, Nat.reduceSub, Nat.reduceLeDiff, Nat.reduceLT, Int.reduceLT, Int.reduceLE, Int.reduceEq, Int.reduceToNat, Int.reduceAdd, Int.reduceSub, Int.reduceNeg, Int.reduceBEq, Int.reduceBNe, Nat.reduceBEq, Int.cast_ofNat_Int, decide_true, decide_false, ne_eq, eq_self_iff_true, beq_eq_false_iff_ne, bne_iff_ne, List.replicate, encMd, Option.getD_some, Option.getD_none] <;> simp
          · rintro n ⟨pre3, rest3, a3⟩ ⟨he3, rfl, hI3⟩
            dsimp only at he3 hI3
            cases rest3 with
            | nil =>
              obtain rfl : l = pre3 := by simpa using he3
              clear he3
              have hlt3 : ¬ (((l).length : Int) < ((l).length : Int)) := Int.lt_irrefl _
              iterate 30 (all_goals (try (first
                | (with_reducible refine ite_in (fun _ => ?_) (fun _ => ?_))
                | (with_reducible refine ⟨fun _ => ?_, fun _ => ?_⟩)
                | (with_reducible refine And.intro ?_ ?_)
                | (with_reducible intro _)
                | (with_reducible exact is_in _)
                | (simp -implicitDefEqProofs only [SD, SF, SL, e_nf, reduceCtorEq, implies_true, ↓reduceIte, Nat.reduceEqDiff, Nat.reduceAdd, Nat.reduceMul, Nat.reduceSub, Nat.reduceLeDiff, Nat.reduceLT, Int.reduceLT, Int.reduceLE, Int.reduceEq, Int.reduceToNat, Int.reduceAdd, Int.reduceSub, Int.reduceNeg, Int.reduceBEq, Int.reduceBNe, Nat.reduceBEq, Int.cast_ofNat_Int, decide_true, decide_false, ne_eq, eq_self_iff_true, beq_eq_false_iff_ne, bne_iff_ne, List.replicate, encMd, Option.getD_some, Option.getD_none, *]))))
              all_goals (simp_all [expR])

            | cons x3 rest3 =>
              have hlt3 := cut_lt he3
              have hx3 := cutD encMd he3
              simp only [encMd] at hx3
              have hw3 := wrap_len (n := pre3.length) (m := (l).length) (cut_lt' he3) hl1
              replace he3 := Hd.mk he3
              have hk3 := ents_lk (stM own now (mx0 age)) he3.out
              obtain ⟨hr1, hr2, hr3, hr4, hr5⟩ := md_row (exM own now (mx0 age)) he3.out hI3
              simp only [encMd] at hr2
              have hr6 := hr3 ⟨x3.server, x3.name, x3.size, x3.time, 3⟩
              simp only [encMd] at hr6
              replace hI3 := Hd.mk hI3
              by_cases hs3 : x3.st = 1 <;> by_cases ho3 : oldB own now (mx0 age) x3 = true
              all_goals simp [stM, hs3, ho3] at hk3
              iterate 30 (all_goals (try (first
                | ((with_reducible refine back_in rest3.length [15, 16, 75, 76, 77, 78, 79, 80, 81, 82, 83, 84, 85, 86, 87, 88, 89, 90, 91, 92] [16] (pre3 ++ [x3], rest3, a3) ?_ ⟨?_, ?_, ?_⟩ ?_)
                   · simp
                   · exact cut_snoc he3.out
                   · rfl
                   · first | rfl | (apply hr4; simp [exM, *]; done) | (apply hr5; simp [exM, *]; done)
                   · first | (simp -implicitDefEqProofs only [SD, SF, SL, e_nf, reduceCtorEq, implies_true, ↓reduceIte, Nat.reduceEqDiff, Nat.reduceAdd, Nat.reduceMul, Nat.reduceSub, Nat.reduceLeDiff, Nat.reduceLT, Int.reduceLT, Int.reduceLE, Int.reduceEq, Int.reduceToNat, Int.reduceAdd, Int.reduceSub, Int.reduceNeg, Int.reduceBEq, Int.reduceBNe, Nat.reduceBEq, Int.cast_ofNat_Int, decide_true, decide_false, ne_eq, eq_self_iff_true, beq_eq_false_iff_ne, bne_iff_ne, List.replicate, encMd, Option.getD_some, Option.getD_none] <;> simp <;> done) | (simp -implicitDefEqProofs only [SD, SF, SL, e_nf, reduceCtorEq, implies_true, ↓reduceIte, Nat.reduceEqDiff, Nat.reduceAdd, Nat.reduceMul, Nat.reduceSub, Nat.reduceLeDiff, Nat.reduceLT, Int.reduceLT, Int.reduceLE, Int.reduceEq, Int.reduceToNat, Int.reduceAdd, Int.reduceSub, Int.reduceNeg, Int.reduceBEq, Int.reduceBNe, Nat.reduceBEq, Int.cast_ofNat_Int, decide_true, decide_false, ne_eq, eq_self_iff_true, beq_eq_false_iff_ne, bne_iff_ne, List.replicate, encMd, Option.getD_some, Option.getD_none, *] <;> simp_all <;> done))
                | ((with_reducible refine back_in rest3.length [15, 16, 75, 76, 77, 78, 79, 80, 81, 82, 83, 84, 85, 86, 87, 88, 89, 90, 91, 92] [16] (pre3 ++ [x3], rest3, (a3.set pre3.length ⟨x3.server, x3.name, x3.size, x3.time, 3⟩)) ?_ ⟨?_, ?_, ?_⟩ ?_)
                   · simp
                   · exact cut_snoc he3.out
                   · rfl
                   · first | rfl | (apply hr4; simp [exM, *]; done) | (apply hr5; simp [exM, *]; done)
                   · first | (simp -implicitDefEqProofs only [SD, SF, SL, e_nf, reduceCtorEq, implies_true, ↓reduceIte, Nat.reduceEqDiff, Nat.reduceAdd, Nat.reduceMul, Nat.reduceSub, Nat.reduceLeDiff, Nat.reduceLT, Int.reduceLT, Int.reduceLE, Int.reduceEq, Int.reduceToNat, Int.reduceAdd, Int.reduceSub, Int.reduceNeg, Int.reduceBEq, Int.reduceBNe, Nat.reduceBEq, Int.cast_ofNat_Int, decide_true, decide_false, ne_eq, eq_self_iff_true, beq_eq_false_iff_ne, bne_iff_ne, List.replicate, encMd, Option.getD_some, Option.getD_none] <;> simp <;> done) | (simp -implicitDefEqProofs only [SD, SF, SL, e_nf, reduceCtorEq, implies_true, ↓reduceIte, Nat.reduceEqDiff, Nat.reduceAdd, Nat.reduceMul, Nat.reduceSub, Nat.reduceLeDiff, Nat.reduceLT, Int.reduceLT, Int.reduceLE, Int.reduceEq, Int.reduceToNat, Int.reduceAdd, Int.reduceSub, Int.reduceNeg, Int.reduceBEq, Int.reduceBNe, Nat.reduceBEq, Int.cast_ofNat_Int, decide_true, decide_false, ne_eq, eq_self_iff_true, beq_eq_false_iff_ne, bne_iff_ne, List.replicate, encMd, Option.getD_some, Option.getD_none, *] <;> simp_all <;> done))
                | (with_reducible refine ite_in (fun _ => ?_) (fun _ => ?_))
                | (with_reducible refine ⟨fun _ => ?_, fun _ => ?_⟩)
                | (with_reducible refine And.intro ?_ ?_)
                | (with_reducible intro _)
                | (with_reducible exact is_in _)
                | (simp -implicitDefEqProofs only [SD, SF, SL, e_nf, reduceCtorEq, implies_true, ↓reduceIte, Nat.reduceEqDiff, Nat.reduceAdd, Nat.reduceMul, Nat.reduceSub, Nat.reduceLeDiff, Nat.reduceLT, Int.reduceLT, Int.reduceLE, Int.reduceEq, Int.reduceToNat, Int.reduceAdd, Int.reduceSub, Int.reduceNeg, Int.reduceBEq, Int.reduceBNe, Nat.reduceBEq, Int.cast_ofNat_Int, decide_true, decide_false, ne_eq, eq_self_iff_true, beq_eq_false_iff_ne, bne_iff_ne, List.replicate, encMd, Option.getD_some, Option.getD_none, *]))))
              all_goals (simp_all [expR])
        | cons x2 rest2 =>
          have hlt2 := cut_lt he2
          have hx2 := cutD encMd he2
          simp only [encMd] at hx2
          have hw2 := wrap_len (n := pre2.length) (m := (l).length) (cut_lt' he2) hl1
          replace he2 := Hd.mk he2
          have hk2 := entQ_lk own now (mx0 age) pre2 x2 rest2
          rcases entQ_or own now (mx0 age) pre2 x2 rest2 with ⟨hs2, ho2, hrem2⟩ | ⟨hs2, ho2, hkeep2⟩ | ⟨hs2, hkeep2⟩
          iterate 30 (all_goals (try (first
            | ((with_reducible refine back_in rest2.length [13, 14, 42, 43, 44, 45, 46, 47, 48, 49, 50, 51, 52, 53, 54, 55, 56, 57, 58, 59, 60, 61, 62, 63, 64, 65, 66, 67, 68, 69, 70, 71] [14] (pre2 ++ [x2], rest2, a2) ?_ ⟨?_, ?_, ?_⟩ ?_)
               · simp
               · exact cut_snoc he2.out
               · rfl
               · first | rfl | assumption | (simp_all []; done) | grind []
               · first | (simp -implicitDefEqProofs only [SD, SF, SL, e_nf, reduceCtorEq, implies_true, ↓reduceIte, Nat.reduceEqDiff, Nat.reduceAdd, Nat.reduceMul, Nat.reduceSub, Nat.reduceLeDiff, Nat.reduceLT, Int.reduceLT, Int.reduceLE, Int.reduceEq, Int.reduceToNat, Int.reduceAdd, Int.reduceSub, Int.reduceNeg, Int.reduceBEq, Int.reduceBNe, Nat.reduceBEq, Int.cast_ofNat_Int, decide_true, decide_false, ne_eq, eq_self_iff_true, beq_eq_false_iff_ne, bne_iff_ne, List.replicate, encMd, entQ_nil, entQ_end, Option.getD_some, Option.getD_none] <;> simp <;> done) | (simp -implicitDefEqProofs only [SD, SF, SL, e_nf, reduceCtorEq, implies_true, ↓reduceIte, Nat.reduceEqDiff, Nat.reduceAdd, Nat.reduceMul, Nat.reduceSub, Nat.reduceLeDiff, Nat.reduceLT, Int.reduceLT, Int.reduceLE, Int.reduceEq, Int.reduceToNat, Int.reduceAdd, Int.reduceSub, Int.reduceNeg, Int.reduceBEq, Int.reduceBNe, Nat.reduceBEq, Int.cast_ofNat_Int, decide_true, decide_false, ne_eq, eq_self_iff_true, beq_eq_false_iff_ne, bne_iff_ne, List.replicate, encMd, entQ_nil, entQ_end, Option.getD_some, Option.getD_none, *] <;> simp_all <;> done))
            | (with_reducible refine ite_in (fun _ => ?_) (fun _ => ?_))
            | (with_reducible refine ⟨fun _ => ?_, fun _ => ?_⟩)
            | (with_reducible refine And.intro ?_ ?_)
            | (with_reducible intro _)
            | (with_reducible exact is_in _)
            | (simp -implicitDefEqProofs only [SD, SF, SL, e_nf, reduceCtorEq, implies_true, ↓reduceIte, Nat.reduceEqDiff, Nat.reduceAdd, Nat.reduceMul, Nat.reduceSub, Nat.reduceLeDiff, Nat.reduceLT, Int.reduceLT, Int.reduceLE, Int.reduceEq, Int.reduceToNat, Int.reduceAdd, Int.reduceSub, Int.reduceNeg, Int.reduceBEq, Int.reduceBNe, Nat.reduceBEq, Int.cast_ofNat_Int, decide_true, decide_false, ne_eq, eq_self_iff_true, beq_eq_false_iff_ne, bne_iff_ne, List.replicate, encMd, entQ_nil, entQ_end, Option.getD_some, Option.getD_none, *]))))
    | cons x1 rest1 =>
      have hlt1 := cut_lt he1
      have hx1 := cutD encMd he1
      simp only [encMd] at hx1
      have hw1 := wrap_len (n := pre1.length) (m := (l).length) (cut_lt' he1) hl1
      replace he1 := Hd.mk he1
      have hu1 := ents_put pre1 x1
      have hv1 := ents_not pre1 x1
      by_cases hs1 : x1.st = 1
      iterate 30 (all_goals (try (first
        | ((with_reducible refine back_in rest1.length [11, 12, 29, 30, 31, 32, 33, 34, 35, 36, 37, 38] [12] (pre1 ++ [x1], rest1, a1) ?_ ⟨?_, ?_, ?_⟩ ?_)
           · simp
           · exact cut_snoc he1.out
           · rfl
           · first | rfl | assumption | (simp_all []; done) | grind []
           · first | (simp -implicitDefEqProofs only [SD, SF, SL, e_nf, reduceCtorEq, implies_true, ↓reduceIte, Nat.reduceEqDiff, Nat.reduceAdd, Nat.reduceMul, Nat.reduceSub, Nat.reduceLeDiff, Nat.reduceLT, Int.reduceLT, Int.reduceLE, Int.reduceEq, Int.reduceToNat, Int.reduceAdd, Int.reduceSub, Int.reduceNeg, Int.reduceBEq, Int.reduceBNe, Nat.reduceBEq, Int.cast_ofNat_Int, decide_true, decide_false, ne_eq, eq_self_iff_true, beq_eq_false_iff_ne, bne_iff_ne, List.replicate, encMd, ents] <;> simp <;> done) | (simp -implicitDefEqProofs only [SD, SF, SL, e_nf, reduceCtorEq, implies_true, ↓reduceIte, Nat.reduceEqDiff, Nat.reduceAdd, Nat.reduceMul, Nat.reduceSub, Nat.reduceLeDiff, Nat.reduceLT, Int.reduceLT, Int.reduceLE, Int.reduceEq, Int.reduceToNat, Int.reduceAdd, Int.reduceSub, Int.reduceNeg, Int.reduceBEq, Int.reduceBNe, Nat.reduceBEq, Int.cast_ofNat_Int, decide_true, decide_false, ne_eq, eq_self_iff_true, beq_eq_false_iff_ne, bne_iff_ne, List.replicate, encMd, ents, *] <;> simp_all <;> done))
        | (with_reducible refine ite_in (fun _ => ?_) (fun _ => ?_))
        | (with_reducible refine ⟨fun _ => ?_, fun _ => ?_⟩)
        | (with_reducible refine And.intro ?_ ?_)
        | (with_reducible intro _)
        | (with_reducible exact is_in _)
        | (simp -implicitDefEqProofs only [SD, SF, SL, e_nf, reduceCtorEq, implies_true, ↓reduceIte, Nat.reduceEqDiff, Nat.reduceAdd, Nat.reduceMul, Nat.reduceSub, Nat.reduceLeDiff, Nat.reduceLT, Int.reduceLT, Int.reduceLE, Int.reduceEq, Int.reduceToNat, Int.reduceAdd, Int.reduceSub, Int.reduceNeg, Int.reduceBEq, Int.reduceBNe, Nat.reduceBEq, Int.cast_ofNat_Int, decide_true, decide_false, ne_eq, eq_self_iff_true, beq_eq_false_iff_ne, bne_iff_ne, List.replicate, encMd, ents, *]))))

end Go.Proofs.Ytfcjmblhcakhaaa.E
