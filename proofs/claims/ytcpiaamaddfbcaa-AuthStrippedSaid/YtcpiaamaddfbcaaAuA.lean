/-
  AuA: walks of functions of the program at data level.
-/
import Derived.Test.YtcpiaamaddfbcaaProg
import Derived.Test.YtcpiaamaddfbcaaEngZ
import Derived.KernelRfl
set_option linter.unusedVariables false
set_option linter.unusedSimpArgs false
namespace Go.Proofs.Ytcpiaamaddfbcaa.E
open Go
set_option maxHeartbeats 4000000
set_option maxRecDepth 100000
set_option linter.unusedSimpArgs false
set_option linter.unusedVariables false
attribute [local congr] c_wp c_ops c_op c_opS c_run c_runS c_dt c_seq c_blk c_loop c_S c_put c_bind c_mv c_pick c_nt c_ng c_bin c_binI c_binS c_beq c_B c_eqa c_hd c_cells c_blkK c_box c_vec c_take c_ld c_ldF c_cellsK c_st c_fld c_fldv c_ix c_ixp c_ixv c_ixs c_sub c_subs c_len c_lens c_src c_dst c_ow c_app c_ext c_mm c_conv c_str c_isn c_fill c_rows c_boxo c_frz c_frzO c_frzA c_frzV c_spec c_specO c_opsP c_opP c_runP c_specP c_Z c_qretP c_fz c_fn c_gv c_cond c_res1 c_resL c_ret c_qret c_ite c_unr c_nx c_bk c_cut c_is
attribute [local irreducible] dwp

structure LU where
  user : List UInt8
  n : Int
def encLU (l : LU) : List DV := [.str l.user, .int .i64 l.n]
structure LK where
  kind : Int
  n : Int
def encLK (l : LK) : List DV := [.int .i64 l.kind, .int .i64 l.n]
def encS (s : List UInt8) : List DV := [.str s]
def encN (n : Int) : List DV := [.int .i64 n]
structure Lv where
  users : List LU
  kinds : List LK
  a2 : Int
  a3 : Int
  a4 : Int
  a5 : Int
  a6 : Int
  a7 : Int
  a8 : Int
def encLv (v : Lv) : List DV := [.sl 2 (v.users.map encLU), .sl 2 (v.kinds.map encLK), .int .i64 v.a2, .int .i64 v.a3, .int .i64 v.a4, .int .i64 v.a5, .int .i64 v.a6, .int .i64 v.a7, .int .i64 v.a8]
structure Ev where
  ident : Int
  room : List UInt8
  sender : List UInt8
  kind : Int
  isState : Bool
  key : List UInt8
  time : Int
  depth : Int
  prev : List Int
  auth : List Int
  txt : List UInt8
  n : Int
  target : Int
  thread : Bool
  via : List UInt8
  allow : List (List UInt8)
  deny : List (List UInt8)
  lv : Lv
  hash : Int
  sigS : List UInt8
  sigN : Int
def encEv (e : Ev) : List DV := [.int .i64 e.ident, .str e.room, .str e.sender, .int .i64 e.kind, .bool e.isState, .str e.key, .int .i64 e.time, .int .i64 e.depth, .sl 1 (e.prev.map encN), .sl 1 (e.auth.map encN), .str e.txt, .int .i64 e.n, .int .i64 e.target, .bool e.thread, .str e.via, .sl 1 (e.allow.map encS), .sl 1 (e.deny.map encS),
  .sl 2 (e.lv.users.map encLU), .sl 2 (e.lv.kinds.map encLK), .int .i64 e.lv.a2, .int .i64 e.lv.a3, .int .i64 e.lv.a4, .int .i64 e.lv.a5, .int .i64 e.lv.a6, .int .i64 e.lv.a7, .int .i64 e.lv.a8, .int .i64 e.hash, .str e.sigS, .int .i64 e.sigN]
theorem nlt_self (n : Nat) : ¬ ((n : Int) < (n : Int)) := Int.lt_irrefl _
theorem zip_of_len {α : Type} : ∀ {a b : List α}, a.length = b.length → ∃ z : List (α × α), a = z.map Prod.fst ∧ b = z.map Prod.snd
  | [], [], _ => ⟨[], rfl, rfl⟩
  | x :: a, y :: b, h => by
    obtain ⟨z, h1, h2⟩ := zip_of_len (a := a) (b := b) (by simpa using h)
    exact ⟨(x, y) :: z, by simp [h1], by simp [h2]⟩
  | [], _ :: _, h => by simp at h
  | _ :: _, [], h => by simp at h
instance : DecidableEq LU := fun a b => by
  cases a; cases b; simp only [LU.mk.injEq]; infer_instance
instance : DecidableEq LK := fun a b => by
  cases a; cases b; simp only [LK.mk.injEq]; infer_instance
instance : DecidableEq Lv := fun a b => by
  cases a; cases b; simp only [Lv.mk.injEq]; infer_instance
instance : DecidableEq Ev := fun a b => by
  cases a; cases b; simp only [Ev.mk.injEq]; infer_instance
theorem LU_eq (a b : LU) : (a = b) = (a.user = b.user ∧ a.n = b.n) := by cases a; cases b; simp
theorem LK_eq (a b : LK) : (a = b) = (a.kind = b.kind ∧ a.n = b.n) := by cases a; cases b; simp
theorem len_cast {α β : Type} (a : List α) (b : List β) : ((a.length : Int) = b.length) = (a.length = b.length) := propext ⟨fun h => by omega, fun h => by omega⟩
def eqz {α : Type} (z : List (α × α)) : Prop := z.map Prod.fst = z.map Prod.snd
instance {α : Type} [DecidableEq α] (z : List (α × α)) : Decidable (eqz z) := inferInstanceAs (Decidable (z.map Prod.fst = z.map Prod.snd))
theorem eqz_nil {α : Type} : eqz ([] : List (α × α)) = True := by simp [eqz]
theorem eqz_end {α : Type} (pre : List (α × α)) : eqz (pre ++ []) = eqz pre := by simp
theorem eqz_mid {α : Type} (pre : List (α × α)) (x : α × α) (rest : List (α × α)) : eqz (pre ++ x :: rest) = (eqz pre ∧ x.1 = x.2 ∧ eqz rest) := by
  unfold eqz
  rw [List.map_append, List.map_append, List.map_cons, List.map_cons]
  apply propext
  constructor
  · intro h
    obtain ⟨h1, h2⟩ := List.append_inj h (by simp)
    obtain ⟨h3, h4⟩ := List.cons.inj h2
    exact ⟨h1, h3, h4⟩
  · rintro ⟨h1, h2, h3⟩
    rw [h1, h2, h3]
theorem eqz_dec {α : Type} [DecidableEq α] (z : List (α × α)) : decide (z.map Prod.fst = z.map Prod.snd) = decide (eqz z) := rfl
theorem wr_lit : (IntKind.i64.wrap 1 = 1 ∧ IntKind.i64.wrap 2 = 2 ∧ IntKind.i64.wrap 3 = 3 ∧ IntKind.i64.wrap 4 = 4) ∧ (IntKind.i64.wrap 5 = 5 ∧ IntKind.i64.wrap 6 = 6 ∧ IntKind.i64.wrap 7 = 7 ∧ IntKind.i64.wrap 8 = 8) := by decide
theorem all_cut {α : Type} {p : α → Bool} {es pre : List α} {x : α} {rest : List α} (h : es = pre ++ x :: rest) (hx : p x = false) : es.all p = false := by
  subst h
  simp [hx]
theorem all_snoc {α : Type} {p : α → Bool} {pre : List α} {x : α} (h : pre.all p = true) (hx : p x = true) : (pre ++ [x]).all p = true := by
  rw [List.all_append, h]
  simp [hx]

def userL : List LU → List UInt8 → Int → Int
  | [], _, d => d
  | x :: l, u, d => if x.user = u then x.n else userL l u d
def userV (v : Lv) (u : List UInt8) : Int := userL v.users u v.a2
def stateB (k : Int) : Bool := decide (1 ≤ k ∧ k ≤ 10)
def needsL : List LK → Int → Int → Int
  | [], _, d => d
  | x :: l, k, d => if x.kind = k then x.n else needsL l k d
def needs (v : Lv) (k : Int) : Int := needsL v.kinds k (if stateB k then v.a4 else v.a3)
def nums (v : Lv) : List Int := [v.a2, v.a3, v.a4, v.a5, v.a6, v.a7, v.a8]
def okN (own was iz : Int) : Bool := decide (was = iz ∨ was ≤ own ∧ iz ≤ own)
def dflt (c : List UInt8) : Lv := ⟨if c = [] then [] else [⟨c, 100⟩], [], 0, 0, 0, 0, 50, 50, 50⟩
def idxL : List Ev → Int → Nat → Int
  | [], _, _ => -1
  | e :: l, k, i => if e.kind = k then i else idxL l k (i + 1)
def findL : List Ev → Int → Option Ev
  | [], _ => none
  | e :: l, k => if e.kind = k then some e else findL l k
theorem idx_spec : ∀ (es : List Ev) (k : Int) (i : Nat), (∃ pre e rest, es = pre ++ e :: rest ∧ idxL es k i = ((i + pre.length : Nat) : Int) ∧ findL es k = some e) ∨ (idxL es k i = -1 ∧ findL es k = none)
  | [], _, _ => .inr ⟨rfl, rfl⟩
  | x :: es, k, i => by
    unfold idxL findL
    by_cases h : x.kind = k
    · rw [if_pos h, if_pos h]
      exact .inl ⟨[], x, es, rfl, by simp, rfl⟩
    · rw [if_neg h, if_neg h]
      rcases idx_spec es k (i + 1) with ⟨pre, e, rest, h1, h2, h3⟩ | h1
      · exact .inl ⟨x :: pre, e, rest, by rw [h1]; rfl, by rw [h2]; simp; omega, h3⟩
      · exact .inr h1
def creatorL (es : List Ev) : List UInt8 := match findL es 1 with
  | some e => e.sender
  | none => []
def levelsL (es : List Ev) : Lv := match findL es 3 with
  | some e => e.lv
  | none => dflt (creatorL es)
def creL : List Ev → List UInt8
  | [] => []
  | e :: l => if e.kind = 1 then e.sender else creL l
theorem creL_eq : ∀ es : List Ev, creL es = creatorL es
  | [] => rfl
  | e :: l => by
    have ih := creL_eq l
    unfold creatorL at *
    unfold creL findL
    by_cases h : e.kind = 1
    · simp [h]
    · simp [h, ih]
def okNs (old new : Lv) (user : List UInt8) : Bool := okN (userV old user) old.a2 new.a2 && okN (userV old user) old.a3 new.a3 && okN (userV old user) old.a4 new.a4 && okN (userV old user) old.a5 new.a5 && okN (userV old user) old.a6 new.a6 && okN (userV old user) old.a7 new.a7 && okN (userV old user) old.a8 new.a8
def okK (old new : Lv) (user : List UInt8) (x : LK) : Bool := okN (userV old user) (needs old x.kind) (needs new x.kind)
def okU (old new : Lv) (user u : List UInt8) : Bool := okN (userV old user) (userV old u) (userV new u) && decide (userV old u = userV new u ∨ u = user ∨ userV old u < userV old user)
def okX (old new : Lv) (user : List UInt8) (x : LU) : Bool := okU old new user x.user
def chgR (old new : Lv) (user : List UInt8) : Int := if (okNs old new user && (old.kinds ++ new.kinds).all (okK old new user) && (old.users ++ new.users).all (okX old new user)) = true then 0 else 20
theorem chgR_N {old new : Lv} {user : List UInt8} (h : okNs old new user = false) : chgR old new user = 20 := by simp [chgR, h]
theorem chgR_K {old new : Lv} {user : List UInt8} (h : (old.kinds ++ new.kinds).all (okK old new user) = false) : chgR old new user = 20 := by
  unfold chgR
  rw [h]
  simp
theorem chgR_K1 {old new : Lv} {user : List UInt8} (h : old.kinds.all (okK old new user) = false) : chgR old new user = 20 := chgR_K (by rw [List.all_append, h]; rfl)
theorem chgR_K2 {old new : Lv} {user : List UInt8} (h : new.kinds.all (okK old new user) = false) : chgR old new user = 20 := chgR_K (by rw [List.all_append, h]; simp)
theorem chgR_U {old new : Lv} {user : List UInt8} (h : (old.users ++ new.users).all (okX old new user) = false) : chgR old new user = 20 := by
  unfold chgR
  rw [h]
  simp
theorem chgR_U1 {old new : Lv} {user : List UInt8} (h : old.users.all (okX old new user) = false) : chgR old new user = 20 := chgR_U (by rw [List.all_append, h]; rfl)
theorem chgR_U2 {old new : Lv} {user : List UInt8} (h : new.users.all (okX old new user) = false) : chgR old new user = 20 := chgR_U (by rw [List.all_append, h]; simp)
theorem chgR_ok {old new : Lv} {user : List UInt8} (h1 : okNs old new user = true) (h2 : old.kinds.all (okK old new user) = true) (h2' : new.kinds.all (okK old new user) = true) (h3 : old.users.all (okX old new user) = true) (h4 : new.users.all (okX old new user) = true) : chgR old new user = 0 := by
  unfold chgR
  rw [h1, List.all_append, List.all_append, h2, h2', h3, h4]
  rfl
def ac39 : AC := (.seq (.ops [⟨(some 2), none, (.box (.t 0))⟩, ⟨(some 4), none, (.mv (.c (.int .i64 0)))⟩]) (.seq (.seq (.ops [⟨(some 7), none, (.fld 0 (.t 2))⟩, ⟨(some 8), none, (.ld false 1 (.t 7))⟩, ⟨(some 9), none, (.len (.t 8))⟩, ⟨(some 10), none, (.mv (.c (.int .i64 0)))⟩]) (.block 0 (.loop (.seq (.ops [⟨(some 11), none, (.bin .lss (.t 10) (.t 9))⟩]) (.seq (.cond (.t 11) .skip (.exit 0)) (.seq (.block 1 (.seq (.ops [⟨(some 12), none, (.ix 2 (.t 8) (.t 10))⟩, ⟨(some 13), none, (.ld true 2 (.t 12))⟩, ⟨(some 6), none, (.alloc [(.str []), (.int .i64 0)])⟩, ⟨none, none, (.sto 2 (.t 6) (.t 13))⟩]) (.seq (.ops [⟨(some 14), none, (.fld 0 (.t 6))⟩, ⟨(some 15), none, (.ld false 1 (.t 14))⟩, ⟨(some 16), none, (.mv (.t 1))⟩, ⟨(some 17), none, (.bin .eql (.t 15) (.t 16))⟩]) (.cond (.t 17) (.seq (.ops [⟨(some 18), none, (.fld 1 (.t 6))⟩, ⟨(some 19), none, (.ld false 1 (.t 18))⟩, ⟨(some 4), none, (.mv (.t 19))⟩]) .ret) .skip)))) (.ops [⟨(some 20), none, (.bin .add (.t 10) (.c (.int .i64 1)))⟩, ⟨(some 10), none, (.mv (.t 20))⟩]))))))) (.seq (.ops [⟨(some 21), none, (.fld 2 (.t 2))⟩, ⟨(some 22), none, (.ld false 1 (.t 21))⟩, ⟨(some 4), none, (.mv (.t 22))⟩]) .ret)))
theorem tr39 : Try.f39.body.bind (trCode Try.prog) = some (strip ac39) := by kernel_rfl
theorem spec39 (v : Lv) (u : List UInt8) : Spec Try.prog 39 [.fz (.agg (encLv v)), .fz (.str u)] (.fz (.int .i64 (userL v.users u v.a2))) := by
  refine spec_at (n := 21) (ars := [(.t 4)]) (ac := ac39) Try.func39 (by kernel_rfl) (by kernel_rfl) tr39 (by kernel_rfl) ?_
  unfold ac39
  simp -implicitDefEqProofs only [SD, SF, SL, e_nf, reduceCtorEq, implies_true, ↓reduceIte, Nat.reduceEqDiff, Nat.reduceAdd, Nat.reduceMul, Nat.reduceSub, Nat.reduceLeDiff, Nat.reduceLT, Int.reduceLT, Int.reduceLE, Int.reduceEq, Int.reduceToNat, Int.reduceAdd, Int.reduceSub, Int.reduceNeg, Int.reduceBEq, Int.reduceBNe, Nat.reduceBEq, Int.cast_ofNat_Int, decide_true, decide_false, ne_eq, eq_self_iff_true, beq_eq_false_iff_ne, bne_iff_ne, List.replicate, encLv]
  intro hl
  refine loop_q (X := List LU × List LU × Unit) (fun n x => v.users = x.1 ++ x.2.1 ∧ n = x.2.1.length ∧ (userL v.users u v.a2 = userL x.2.1 u v.a2)) (fun x => [(10, .int .i64 x.1.length)]) (fun _ => []) [4, 6, 11, 12, 13, 14, 15, 16, 17, 18, 19, 20] [6] (v.users).length ([], v.users, ()) ⟨rfl, rfl, by first | rfl | assumption | (simp_all [userL]; done) | grind [userL]⟩ ?_ ?_
  · simp -implicitDefEqProofs only [SD, SF, SL, e_nf, reduceCtorEq, implies_true, ↓reduceIte, Nat.reduceEqDiff, Nat.reduceAdd, Nat.reduceMul, Nat.reduceSub, Nat.reduceLeDiff, Nat.reduceLT, Int.reduceLT, Int.reduceLE, Int.reduceEq, Int.reduceToNat, Int.reduceAdd, Int.reduceSub, Int.reduceNeg, Int.reduceBEq, Int.reduceBNe, Nat.reduceBEq, Int.cast_ofNat_Int, decide_true, decide_false, ne_eq, eq_self_iff_true, beq_eq_false_iff_ne, bne_iff_ne, List.replicate, encLv, userL] <;> simp
  · rintro n ⟨pre, rest, a⟩ ⟨he, rfl, hI⟩
    dsimp only at he hI
    cases rest with
    | nil =>
      obtain rfl : v.users = pre := by simpa using he
      clear he
      have hlt : ¬ (((v.users).length : Int) < ((v.users).length : Int)) := Int.lt_irrefl _
      iterate 30 (all_goals (try (first
        | (with_reducible refine ite_in (fun _ => ?_) (fun _ => ?_))
        | (with_reducible refine ⟨fun _ => ?_, fun _ => ?_⟩)
        | (with_reducible refine And.intro ?_ ?_)
        | (with_reducible intro _)
        | (with_reducible exact is_in _)
        | (simp -implicitDefEqProofs only [SD, SF, SL, e_nf, reduceCtorEq, implies_true, ↓reduceIte, Nat.reduceEqDiff, Nat.reduceAdd, Nat.reduceMul, Nat.reduceSub, Nat.reduceLeDiff, Nat.reduceLT, Int.reduceLT, Int.reduceLE, Int.reduceEq, Int.reduceToNat, Int.reduceAdd, Int.reduceSub, Int.reduceNeg, Int.reduceBEq, Int.reduceBNe, Nat.reduceBEq, Int.cast_ofNat_Int, decide_true, decide_false, ne_eq, eq_self_iff_true, beq_eq_false_iff_ne, bne_iff_ne, List.replicate, encLv, userL, *]))))

    | cons x rest =>
      have hlt := cut_lt he
      have hx := cutD encLU he
      simp only [encLU] at hx
      have hw := wrap_len (n := pre.length) (m := (v.users).length) (cut_lt' he) (by simpa using hl)
      replace he := Hd.mk he
      iterate 30 (all_goals (try (first
        | ((with_reducible refine back_in rest.length [4, 6, 11, 12, 13, 14, 15, 16, 17, 18, 19, 20] [6] (pre ++ [x], rest, a) ?_ ⟨?_, ?_, ?_⟩ ?_)
           · simp
           · exact cut_snoc he.out
           · rfl
           · first | rfl | assumption | (simp_all [userL]; done) | grind [userL]
           · first | (simp -implicitDefEqProofs only [SD, SF, SL, e_nf, reduceCtorEq, implies_true, ↓reduceIte, Nat.reduceEqDiff, Nat.reduceAdd, Nat.reduceMul, Nat.reduceSub, Nat.reduceLeDiff, Nat.reduceLT, Int.reduceLT, Int.reduceLE, Int.reduceEq, Int.reduceToNat, Int.reduceAdd, Int.reduceSub, Int.reduceNeg, Int.reduceBEq, Int.reduceBNe, Nat.reduceBEq, Int.cast_ofNat_Int, decide_true, decide_false, ne_eq, eq_self_iff_true, beq_eq_false_iff_ne, bne_iff_ne, List.replicate, encLv, userL] <;> simp <;> done) | (simp -implicitDefEqProofs only [SD, SF, SL, e_nf, reduceCtorEq, implies_true, ↓reduceIte, Nat.reduceEqDiff, Nat.reduceAdd, Nat.reduceMul, Nat.reduceSub, Nat.reduceLeDiff, Nat.reduceLT, Int.reduceLT, Int.reduceLE, Int.reduceEq, Int.reduceToNat, Int.reduceAdd, Int.reduceSub, Int.reduceNeg, Int.reduceBEq, Int.reduceBNe, Nat.reduceBEq, Int.cast_ofNat_Int, decide_true, decide_false, ne_eq, eq_self_iff_true, beq_eq_false_iff_ne, bne_iff_ne, List.replicate, encLv, userL, *] <;> simp_all <;> done))
        | (with_reducible refine ite_in (fun _ => ?_) (fun _ => ?_))
        | (with_reducible refine ⟨fun _ => ?_, fun _ => ?_⟩)
        | (with_reducible refine And.intro ?_ ?_)
        | (with_reducible intro _)
        | (with_reducible exact is_in _)
        | (simp -implicitDefEqProofs only [SD, SF, SL, e_nf, reduceCtorEq, implies_true, ↓reduceIte, Nat.reduceEqDiff, Nat.reduceAdd, Nat.reduceMul, Nat.reduceSub, Nat.reduceLeDiff, Nat.reduceLT, Int.reduceLT, Int.reduceLE, Int.reduceEq, Int.reduceToNat, Int.reduceAdd, Int.reduceSub, Int.reduceNeg, Int.reduceBEq, Int.reduceBNe, Nat.reduceBEq, Int.cast_ofNat_Int, decide_true, decide_false, ne_eq, eq_self_iff_true, beq_eq_false_iff_ne, bne_iff_ne, List.replicate, encLv, userL, *]))))
def ac21 : AC := (.seq (.ops [⟨(some 2), none, (.box (.t 0))⟩, ⟨(some 4), none, (.mv (.c (.int .i64 0)))⟩]) (.seq (.seq (.ops [⟨(some 5), none, (.mv (.c (.int .i64 0)))⟩]) (.block 0 (.loop (.seq (.seq (.ops [⟨(some 6), none, (.mv (.t 5))⟩, ⟨(some 7), none, (.fld 0 (.t 2))⟩, ⟨(some 8), none, (.ld false 1 (.t 7))⟩, ⟨(some 9), none, (.len (.t 8))⟩, ⟨(some 10), none, (.bin .lss (.t 6) (.t 9))⟩]) (.cond (.t 10) .skip (.exit 0))) (.seq (.block 1 (.seq (.ops [⟨(some 13), none, (.fld 0 (.t 2))⟩, ⟨(some 14), none, (.ld false 1 (.t 13))⟩, ⟨(some 15), none, (.mv (.t 5))⟩, ⟨(some 16), none, (.ix 2 (.t 14) (.t 15))⟩, ⟨(some 17), none, (.fld 0 (.t 16))⟩, ⟨(some 18), none, (.ld false 1 (.t 17))⟩, ⟨(some 19), none, (.mv (.t 1))⟩, ⟨(some 20), none, (.bin .eql (.t 18) (.t 19))⟩]) (.cond (.t 20) (.seq (.ops [⟨(some 21), none, (.fld 0 (.t 2))⟩, ⟨(some 22), none, (.ld false 1 (.t 21))⟩, ⟨(some 23), none, (.mv (.t 5))⟩, ⟨(some 24), none, (.ix 2 (.t 22) (.t 23))⟩, ⟨(some 25), none, (.fld 1 (.t 24))⟩, ⟨(some 26), none, (.ld false 1 (.t 25))⟩, ⟨(some 4), none, (.mv (.t 26))⟩]) .ret) .skip))) (.ops [⟨(some 11), none, (.mv (.t 5))⟩, ⟨(some 12), none, (.bin .add (.t 11) (.c (.int .i64 1)))⟩, ⟨(some 5), none, (.mv (.t 12))⟩])))))) (.seq (.ops [⟨(some 27), none, (.fld 2 (.t 2))⟩, ⟨(some 28), none, (.ld false 1 (.t 27))⟩, ⟨(some 4), none, (.mv (.t 28))⟩]) .ret)))
theorem tr21 : Try.f21.body.bind (trCode Try.prog) = some (strip ac21) := by kernel_rfl
theorem spec21 (v : Lv) (u : List UInt8) : Spec Try.prog 21 [.fz (.agg (encLv v)), .fz (.str u)] (.fz (.int .i64 (userL v.users u v.a2))) := by
  refine spec_at (n := 27) (ars := [(.t 4)]) (ac := ac21) Try.func21 (by kernel_rfl) (by kernel_rfl) tr21 (by kernel_rfl) ?_
  unfold ac21
  simp -implicitDefEqProofs only [SD, SF, SL, e_nf, reduceCtorEq, implies_true, ↓reduceIte, Nat.reduceEqDiff, Nat.reduceAdd, Nat.reduceMul, Nat.reduceSub, Nat.reduceLeDiff, Nat.reduceLT, Int.reduceLT, Int.reduceLE, Int.reduceEq, Int.reduceToNat, Int.reduceAdd, Int.reduceSub, Int.reduceNeg, Int.reduceBEq, Int.reduceBNe, Nat.reduceBEq, Int.cast_ofNat_Int, decide_true, decide_false, ne_eq, eq_self_iff_true, beq_eq_false_iff_ne, bne_iff_ne, List.replicate, encLv]
  refine loop_q (X := List LU × List LU × Unit) (fun n x => v.users = x.1 ++ x.2.1 ∧ n = x.2.1.length ∧ (userL v.users u v.a2 = userL x.2.1 u v.a2)) (fun x => [(5, .int .i64 x.1.length)]) (fun _ => []) [4, 6, 7, 8, 9, 10, 11, 12, 13, 14, 15, 16, 17, 18, 19, 20, 21, 22, 23, 24, 25, 26] [] (v.users).length ([], v.users, ()) ⟨rfl, rfl, by first | rfl | assumption | (simp_all [userL]; done) | grind [userL]⟩ ?_ ?_
  · simp -implicitDefEqProofs only [SD, SF, SL, e_nf, reduceCtorEq, implies_true, ↓reduceIte, Nat.reduceEqDiff, Nat.reduceAdd, Nat.reduceMul, Nat.reduceSub, Nat.reduceLeDiff, Nat.reduceLT, Int.reduceLT, Int.reduceLE, Int.reduceEq, Int.reduceToNat, Int.reduceAdd, Int.reduceSub, Int.reduceNeg, Int.reduceBEq, Int.reduceBNe, Nat.reduceBEq, Int.cast_ofNat_Int, decide_true, decide_false, ne_eq, eq_self_iff_true, beq_eq_false_iff_ne, bne_iff_ne, List.replicate, encLv, userL] <;> simp
  · rintro n ⟨pre, rest, a⟩ ⟨he, rfl, hI⟩
    dsimp only at he hI
    cases rest with
    | nil =>
      obtain rfl : v.users = pre := by simpa using he
      clear he
      have hlt : ¬ (((v.users).length : Int) < ((v.users).length : Int)) := Int.lt_irrefl _
      iterate 30 (all_goals (try (first
        | (with_reducible refine ite_in (fun _ => ?_) (fun _ => ?_))
        | (with_reducible refine ⟨fun _ => ?_, fun _ => ?_⟩)
        | (with_reducible refine And.intro ?_ ?_)
        | (with_reducible intro _)
        | (with_reducible exact is_in _)
        | (simp -implicitDefEqProofs only [SD, SF, SL, e_nf, reduceCtorEq, implies_true, ↓reduceIte, Nat.reduceEqDiff, Nat.reduceAdd, Nat.reduceMul, Nat.reduceSub, Nat.reduceLeDiff, Nat.reduceLT, Int.reduceLT, Int.reduceLE, Int.reduceEq, Int.reduceToNat, Int.reduceAdd, Int.reduceSub, Int.reduceNeg, Int.reduceBEq, Int.reduceBNe, Nat.reduceBEq, Int.cast_ofNat_Int, decide_true, decide_false, ne_eq, eq_self_iff_true, beq_eq_false_iff_ne, bne_iff_ne, List.replicate, encLv, userL, *]))))

    | cons x rest =>
      have hlt := cut_lt he
      have hx := cutD encLU he
      simp only [encLU] at hx
      simp -implicitDefEqProofs only [SD, SF, SL, e_nf, reduceCtorEq, implies_true, ↓reduceIte, Nat.reduceEqDiff, Nat.reduceAdd, Nat.reduceMul, Nat.reduceSub, Nat.reduceLeDiff, Nat.reduceLT, Int.reduceLT, Int.reduceLE, Int.reduceEq, Int.reduceToNat, Int.reduceAdd, Int.reduceSub, Int.reduceNeg, Int.reduceBEq, Int.reduceBNe, Nat.reduceBEq, Int.cast_ofNat_Int, decide_true, decide_false, ne_eq, eq_self_iff_true, beq_eq_false_iff_ne, bne_iff_ne, List.replicate, encLv, userL, hlt]
      intro hl
      have hw := wrap_len (n := pre.length) (m := (v.users).length) (cut_lt' he) (by simpa using hl)
      replace he := Hd.mk he
      iterate 30 (all_goals (try (first
        | ((with_reducible refine back_in rest.length [4, 6, 7, 8, 9, 10, 11, 12, 13, 14, 15, 16, 17, 18, 19, 20, 21, 22, 23, 24, 25, 26] [] (pre ++ [x], rest, a) ?_ ⟨?_, ?_, ?_⟩ ?_)
           · simp
           · exact cut_snoc he.out
           · rfl
           · first | rfl | assumption | (simp_all [userL]; done) | grind [userL]
           · first | (simp -implicitDefEqProofs only [SD, SF, SL, e_nf, reduceCtorEq, implies_true, ↓reduceIte, Nat.reduceEqDiff, Nat.reduceAdd, Nat.reduceMul, Nat.reduceSub, Nat.reduceLeDiff, Nat.reduceLT, Int.reduceLT, Int.reduceLE, Int.reduceEq, Int.reduceToNat, Int.reduceAdd, Int.reduceSub, Int.reduceNeg, Int.reduceBEq, Int.reduceBNe, Nat.reduceBEq, Int.cast_ofNat_Int, decide_true, decide_false, ne_eq, eq_self_iff_true, beq_eq_false_iff_ne, bne_iff_ne, List.replicate, encLv, userL] <;> simp <;> done) | (simp -implicitDefEqProofs only [SD, SF, SL, e_nf, reduceCtorEq, implies_true, ↓reduceIte, Nat.reduceEqDiff, Nat.reduceAdd, Nat.reduceMul, Nat.reduceSub, Nat.reduceLeDiff, Nat.reduceLT, Int.reduceLT, Int.reduceLE, Int.reduceEq, Int.reduceToNat, Int.reduceAdd, Int.reduceSub, Int.reduceNeg, Int.reduceBEq, Int.reduceBNe, Nat.reduceBEq, Int.cast_ofNat_Int, decide_true, decide_false, ne_eq, eq_self_iff_true, beq_eq_false_iff_ne, bne_iff_ne, List.replicate, encLv, userL, *] <;> simp_all <;> done))
        | (with_reducible refine ite_in (fun _ => ?_) (fun _ => ?_))
        | (with_reducible refine ⟨fun _ => ?_, fun _ => ?_⟩)
        | (with_reducible refine And.intro ?_ ?_)
        | (with_reducible intro _)
        | (with_reducible exact is_in _)
        | (simp -implicitDefEqProofs only [SD, SF, SL, e_nf, reduceCtorEq, implies_true, ↓reduceIte, Nat.reduceEqDiff, Nat.reduceAdd, Nat.reduceMul, Nat.reduceSub, Nat.reduceLeDiff, Nat.reduceLT, Int.reduceLT, Int.reduceLE, Int.reduceEq, Int.reduceToNat, Int.reduceAdd, Int.reduceSub, Int.reduceNeg, Int.reduceBEq, Int.reduceBNe, Nat.reduceBEq, Int.cast_ofNat_Int, decide_true, decide_false, ne_eq, eq_self_iff_true, beq_eq_false_iff_ne, bne_iff_ne, List.replicate, encLv, userL, *]))))
def ac64 : AC := (.seq (.ops [⟨(some 2), none, (.mv (.c (.bool false)))⟩]) (.seq (.ops [⟨(some 3), none, (.mv (.t 0))⟩, ⟨(some 4), none, (.bin .geq (.t 3) (.c (.int .i64 1)))⟩, ⟨(some 5), none, (.mv (.t 4))⟩, ⟨(some 6), (some (5, true)), (.mv (.t 0))⟩, ⟨(some 7), (some (5, true)), (.bin .leq (.t 6) (.c (.int .i64 10)))⟩, ⟨(some 8), none, (.pick (.t 5) (.t 7) (.c (.bool false)))⟩, ⟨(some 2), none, (.mv (.t 8))⟩]) .ret))
theorem tr64 : Try.f64.body.bind (trCode Try.prog) = some (strip ac64) := by kernel_rfl
theorem spec64 (k : Int) : Spec Try.prog 64 [.fz (.int .i64 k)] (.fz (.bool (stateB k))) := by
  refine spec_at (n := 8) (ars := [(.t 2)]) (ac := ac64) Try.func64 (by kernel_rfl) (by kernel_rfl) tr64 (by kernel_rfl) ?_
  unfold ac64
  iterate 30 (all_goals (try (first
    | (with_reducible refine ite_in (fun _ => ?_) (fun _ => ?_))
    | (with_reducible refine ⟨fun _ => ?_, fun _ => ?_⟩)
    | (with_reducible refine And.intro ?_ ?_)
    | (with_reducible intro _)
    | (with_reducible exact is_in _)
    | (simp -implicitDefEqProofs only [SD, SF, SL, e_nf, reduceCtorEq, implies_true, ↓reduceIte, Nat.reduceEqDiff, Nat.reduceAdd, Nat.reduceMul, Nat.reduceSub, Nat.reduceLeDiff, Nat.reduceLT, Int.reduceLT, Int.reduceLE, Int.reduceEq, Int.reduceToNat, Int.reduceAdd, Int.reduceSub, Int.reduceNeg, Int.reduceBEq, Int.reduceBNe, Nat.reduceBEq, Int.cast_ofNat_Int, decide_true, decide_false, ne_eq, eq_self_iff_true, beq_eq_false_iff_ne, bne_iff_ne, List.replicate, *]))))
  all_goals (simp_all [stateB] <;> omega)
def ac67 : AC := (.seq (.ops [⟨(some 2), none, (.mv (.c (.bool false)))⟩]) (.seq (.ops [⟨(some 3), none, (.mv (.t 0))⟩, ⟨(some 4), none, (.bin .geq (.t 3) (.c (.int .i64 1)))⟩, ⟨(some 5), none, (.mv (.t 4))⟩, ⟨(some 6), (some (5, true)), (.mv (.t 0))⟩, ⟨(some 7), (some (5, true)), (.bin .leq (.t 6) (.c (.int .i64 10)))⟩, ⟨(some 8), none, (.pick (.t 5) (.t 7) (.c (.bool false)))⟩, ⟨(some 2), none, (.mv (.t 8))⟩]) .ret))
theorem tr67 : Try.f67.body.bind (trCode Try.prog) = some (strip ac67) := by kernel_rfl
theorem spec67 (k : Int) : Spec Try.prog 67 [.fz (.int .i64 k)] (.fz (.bool (stateB k))) := by
  refine spec_at (n := 8) (ars := [(.t 2)]) (ac := ac67) Try.func67 (by kernel_rfl) (by kernel_rfl) tr67 (by kernel_rfl) ?_
  unfold ac67
  iterate 30 (all_goals (try (first
    | (with_reducible refine ite_in (fun _ => ?_) (fun _ => ?_))
    | (with_reducible refine ⟨fun _ => ?_, fun _ => ?_⟩)
    | (with_reducible refine And.intro ?_ ?_)
    | (with_reducible intro _)
    | (with_reducible exact is_in _)
    | (simp -implicitDefEqProofs only [SD, SF, SL, e_nf, reduceCtorEq, implies_true, ↓reduceIte, Nat.reduceEqDiff, Nat.reduceAdd, Nat.reduceMul, Nat.reduceSub, Nat.reduceLeDiff, Nat.reduceLT, Int.reduceLT, Int.reduceLE, Int.reduceEq, Int.reduceToNat, Int.reduceAdd, Int.reduceSub, Int.reduceNeg, Int.reduceBEq, Int.reduceBNe, Nat.reduceBEq, Int.cast_ofNat_Int, decide_true, decide_false, ne_eq, eq_self_iff_true, beq_eq_false_iff_ne, bne_iff_ne, List.replicate, *]))))
  all_goals (simp_all [stateB] <;> omega)
def ac44 : AC := (.seq (.ops [⟨(some 2), none, (.box (.t 0))⟩, ⟨(some 4), none, (.mv (.c (.int .i64 0)))⟩]) (.seq (.seq (.ops [⟨(some 7), none, (.fld 1 (.t 2))⟩, ⟨(some 8), none, (.ld false 1 (.t 7))⟩, ⟨(some 9), none, (.len (.t 8))⟩, ⟨(some 10), none, (.mv (.c (.int .i64 0)))⟩]) (.block 0 (.loop (.seq (.ops [⟨(some 11), none, (.bin .lss (.t 10) (.t 9))⟩]) (.seq (.cond (.t 11) .skip (.exit 0)) (.seq (.block 1 (.seq (.ops [⟨(some 12), none, (.ix 2 (.t 8) (.t 10))⟩, ⟨(some 13), none, (.ld true 2 (.t 12))⟩, ⟨(some 6), none, (.alloc [(.int .i64 0), (.int .i64 0)])⟩, ⟨none, none, (.sto 2 (.t 6) (.t 13))⟩]) (.seq (.ops [⟨(some 14), none, (.fld 0 (.t 6))⟩, ⟨(some 15), none, (.ld false 1 (.t 14))⟩, ⟨(some 16), none, (.mv (.t 1))⟩, ⟨(some 17), none, (.bin .eql (.t 15) (.t 16))⟩]) (.cond (.t 17) (.seq (.ops [⟨(some 18), none, (.fld 1 (.t 6))⟩, ⟨(some 19), none, (.ld false 1 (.t 18))⟩, ⟨(some 4), none, (.mv (.t 19))⟩]) .ret) .skip)))) (.ops [⟨(some 20), none, (.bin .add (.t 10) (.c (.int .i64 1)))⟩, ⟨(some 10), none, (.mv (.t 20))⟩]))))))) (.seq (.seq (.ops [⟨(some 21), none, (.mv (.t 1))⟩, ⟨(some 22), none, (.call false 64 [(.t 21)])⟩]) (.cond (.t 22) (.seq (.ops [⟨(some 23), none, (.fld 4 (.t 2))⟩, ⟨(some 24), none, (.ld false 1 (.t 23))⟩, ⟨(some 4), none, (.mv (.t 24))⟩]) .ret) .skip)) (.seq (.ops [⟨(some 25), none, (.fld 3 (.t 2))⟩, ⟨(some 26), none, (.ld false 1 (.t 25))⟩, ⟨(some 4), none, (.mv (.t 26))⟩]) .ret))))
theorem tr44 : Try.f44.body.bind (trCode Try.prog) = some (strip ac44) := by kernel_rfl
theorem spec44 (v : Lv) (k : Int) : Spec Try.prog 44 [.fz (.agg (encLv v)), .fz (.int .i64 k)] (.fz (.int .i64 (needs v k))) := by
  refine spec_at (n := 25) (ars := [(.t 4)]) (ac := ac44) Try.func44 (by kernel_rfl) (by kernel_rfl) tr44 (by kernel_rfl) ?_
  unfold ac44
  simp -implicitDefEqProofs only [SD, SF, SL, e_nf, reduceCtorEq, implies_true, ↓reduceIte, Nat.reduceEqDiff, Nat.reduceAdd, Nat.reduceMul, Nat.reduceSub, Nat.reduceLeDiff, Nat.reduceLT, Int.reduceLT, Int.reduceLE, Int.reduceEq, Int.reduceToNat, Int.reduceAdd, Int.reduceSub, Int.reduceNeg, Int.reduceBEq, Int.reduceBNe, Nat.reduceBEq, Int.cast_ofNat_Int, decide_true, decide_false, ne_eq, eq_self_iff_true, beq_eq_false_iff_ne, bne_iff_ne, List.replicate, encLv]
  intro hl
  refine loop_q (X := List LK × List LK × Unit) (fun n x => v.kinds = x.1 ++ x.2.1 ∧ n = x.2.1.length ∧ (needsL v.kinds k (if stateB k then v.a4 else v.a3) = needsL x.2.1 k (if stateB k then v.a4 else v.a3))) (fun x => [(10, .int .i64 x.1.length)]) (fun _ => []) [4, 6, 11, 12, 13, 14, 15, 16, 17, 18, 19, 20] [6] (v.kinds).length ([], v.kinds, ()) ⟨rfl, rfl, by first | rfl | assumption | (simp_all [needsL, needs]; done) | grind [needsL, needs]⟩ ?_ ?_
  · simp -implicitDefEqProofs only [SD, SF, SL, e_nf, reduceCtorEq, implies_true, ↓reduceIte, Nat.reduceEqDiff, Nat.reduceAdd, Nat.reduceMul, Nat.reduceSub, Nat.reduceLeDiff, Nat.reduceLT, Int.reduceLT, Int.reduceLE, Int.reduceEq, Int.reduceToNat, Int.reduceAdd, Int.reduceSub, Int.reduceNeg, Int.reduceBEq, Int.reduceBNe, Nat.reduceBEq, Int.cast_ofNat_Int, decide_true, decide_false, ne_eq, eq_self_iff_true, beq_eq_false_iff_ne, bne_iff_ne, List.replicate, encLv, needs, needsL] <;> simp
  · rintro n ⟨pre, rest, a⟩ ⟨he, rfl, hI⟩
    dsimp only at he hI
    cases rest with
    | nil =>
      obtain rfl : v.kinds = pre := by simpa using he
      clear he
      have hlt : ¬ (((v.kinds).length : Int) < ((v.kinds).length : Int)) := Int.lt_irrefl _
      iterate 30 (all_goals (try (first
        | ((with_reducible refine of_kSpec ?_); refine call_fz (spec64 k) rfl ?_)
        | (with_reducible refine ite_in (fun _ => ?_) (fun _ => ?_))
        | (with_reducible refine ⟨fun _ => ?_, fun _ => ?_⟩)
        | (with_reducible refine And.intro ?_ ?_)
        | (with_reducible intro _)
        | (with_reducible exact is_in _)
        | (simp -implicitDefEqProofs only [SD, SF, SL, e_nf, reduceCtorEq, implies_true, ↓reduceIte, Nat.reduceEqDiff, Nat.reduceAdd, Nat.reduceMul, Nat.reduceSub, Nat.reduceLeDiff, Nat.reduceLT, Int.reduceLT, Int.reduceLE, Int.reduceEq, Int.reduceToNat, Int.reduceAdd, Int.reduceSub, Int.reduceNeg, Int.reduceBEq, Int.reduceBNe, Nat.reduceBEq, Int.cast_ofNat_Int, decide_true, decide_false, ne_eq, eq_self_iff_true, beq_eq_false_iff_ne, bne_iff_ne, List.replicate, encLv, needs, needsL, *]))))
      all_goals (simp_all [needsL, needs])

    | cons x rest =>
      have hlt := cut_lt he
      have hx := cutD encLK he
      simp only [encLK] at hx
      have hw := wrap_len (n := pre.length) (m := (v.kinds).length) (cut_lt' he) (by simpa using hl)
      replace he := Hd.mk he
      iterate 30 (all_goals (try (first
        | ((with_reducible refine back_in rest.length [4, 6, 11, 12, 13, 14, 15, 16, 17, 18, 19, 20] [6] (pre ++ [x], rest, a) ?_ ⟨?_, ?_, ?_⟩ ?_)
           · simp
           · exact cut_snoc he.out
           · rfl
           · first | rfl | assumption | (simp_all [needsL, needs]; done) | grind [needsL, needs]
           · first | (simp -implicitDefEqProofs only [SD, SF, SL, e_nf, reduceCtorEq, implies_true, ↓reduceIte, Nat.reduceEqDiff, Nat.reduceAdd, Nat.reduceMul, Nat.reduceSub, Nat.reduceLeDiff, Nat.reduceLT, Int.reduceLT, Int.reduceLE, Int.reduceEq, Int.reduceToNat, Int.reduceAdd, Int.reduceSub, Int.reduceNeg, Int.reduceBEq, Int.reduceBNe, Nat.reduceBEq, Int.cast_ofNat_Int, decide_true, decide_false, ne_eq, eq_self_iff_true, beq_eq_false_iff_ne, bne_iff_ne, List.replicate, encLv, needs, needsL] <;> simp <;> done) | (simp -implicitDefEqProofs only [SD, SF, SL, e_nf, reduceCtorEq, implies_true, ↓reduceIte, Nat.reduceEqDiff, Nat.reduceAdd, Nat.reduceMul, Nat.reduceSub, Nat.reduceLeDiff, Nat.reduceLT, Int.reduceLT, Int.reduceLE, Int.reduceEq, Int.reduceToNat, Int.reduceAdd, Int.reduceSub, Int.reduceNeg, Int.reduceBEq, Int.reduceBNe, Nat.reduceBEq, Int.cast_ofNat_Int, decide_true, decide_false, ne_eq, eq_self_iff_true, beq_eq_false_iff_ne, bne_iff_ne, List.replicate, encLv, needs, needsL, *] <;> simp_all <;> done))
        | ((with_reducible refine of_kSpec ?_); refine call_fz (spec64 k) rfl ?_)
        | (with_reducible refine ite_in (fun _ => ?_) (fun _ => ?_))
        | (with_reducible refine ⟨fun _ => ?_, fun _ => ?_⟩)
        | (with_reducible refine And.intro ?_ ?_)
        | (with_reducible intro _)
        | (with_reducible exact is_in _)
        | (simp -implicitDefEqProofs only [SD, SF, SL, e_nf, reduceCtorEq, implies_true, ↓reduceIte, Nat.reduceEqDiff, Nat.reduceAdd, Nat.reduceMul, Nat.reduceSub, Nat.reduceLeDiff, Nat.reduceLT, Int.reduceLT, Int.reduceLE, Int.reduceEq, Int.reduceToNat, Int.reduceAdd, Int.reduceSub, Int.reduceNeg, Int.reduceBEq, Int.reduceBNe, Nat.reduceBEq, Int.cast_ofNat_Int, decide_true, decide_false, ne_eq, eq_self_iff_true, beq_eq_false_iff_ne, bne_iff_ne, List.replicate, encLv, needs, needsL, *]))))
      all_goals (simp_all [needsL, needs])
def ac46 : AC := (.seq (.ops [⟨(some 2), none, (.box (.t 0))⟩, ⟨(some 4), none, (.mv (.c (.int .i64 0)))⟩]) (.seq (.seq (.ops [⟨(some 5), none, (.mv (.c (.int .i64 0)))⟩]) (.block 0 (.loop (.seq (.seq (.ops [⟨(some 6), none, (.mv (.t 5))⟩, ⟨(some 7), none, (.fld 1 (.t 2))⟩, ⟨(some 8), none, (.ld false 1 (.t 7))⟩, ⟨(some 9), none, (.len (.t 8))⟩, ⟨(some 10), none, (.bin .lss (.t 6) (.t 9))⟩]) (.cond (.t 10) .skip (.exit 0))) (.seq (.block 1 (.seq (.ops [⟨(some 13), none, (.fld 1 (.t 2))⟩, ⟨(some 14), none, (.ld false 1 (.t 13))⟩, ⟨(some 15), none, (.mv (.t 5))⟩, ⟨(some 16), none, (.ix 2 (.t 14) (.t 15))⟩, ⟨(some 17), none, (.fld 0 (.t 16))⟩, ⟨(some 18), none, (.ld false 1 (.t 17))⟩, ⟨(some 19), none, (.mv (.t 1))⟩, ⟨(some 20), none, (.bin .eql (.t 18) (.t 19))⟩]) (.cond (.t 20) (.seq (.ops [⟨(some 21), none, (.fld 1 (.t 2))⟩, ⟨(some 22), none, (.ld false 1 (.t 21))⟩, ⟨(some 23), none, (.mv (.t 5))⟩, ⟨(some 24), none, (.ix 2 (.t 22) (.t 23))⟩, ⟨(some 25), none, (.fld 1 (.t 24))⟩, ⟨(some 26), none, (.ld false 1 (.t 25))⟩, ⟨(some 4), none, (.mv (.t 26))⟩]) .ret) .skip))) (.ops [⟨(some 11), none, (.mv (.t 5))⟩, ⟨(some 12), none, (.bin .add (.t 11) (.c (.int .i64 1)))⟩, ⟨(some 5), none, (.mv (.t 12))⟩])))))) (.seq (.seq (.ops [⟨(some 27), none, (.mv (.t 1))⟩, ⟨(some 28), none, (.call false 67 [(.t 27)])⟩]) (.cond (.t 28) (.seq (.ops [⟨(some 29), none, (.fld 4 (.t 2))⟩, ⟨(some 30), none, (.ld false 1 (.t 29))⟩, ⟨(some 4), none, (.mv (.t 30))⟩]) .ret) .skip)) (.seq (.ops [⟨(some 31), none, (.fld 3 (.t 2))⟩, ⟨(some 32), none, (.ld false 1 (.t 31))⟩, ⟨(some 4), none, (.mv (.t 32))⟩]) .ret))))
theorem tr46 : Try.f46.body.bind (trCode Try.prog) = some (strip ac46) := by kernel_rfl
theorem spec46 (v : Lv) (k : Int) : Spec Try.prog 46 [.fz (.agg (encLv v)), .fz (.int .i64 k)] (.fz (.int .i64 (needs v k))) := by
  refine spec_at (n := 31) (ars := [(.t 4)]) (ac := ac46) Try.func46 (by kernel_rfl) (by kernel_rfl) tr46 (by kernel_rfl) ?_
  unfold ac46
  simp -implicitDefEqProofs only [SD, SF, SL, e_nf, reduceCtorEq, implies_true, ↓reduceIte, Nat.reduceEqDiff, Nat.reduceAdd, Nat.reduceMul, Nat.reduceSub, Nat.reduceLeDiff, Nat.reduceLT, Int.reduceLT, Int.reduceLE, Int.reduceEq, Int.reduceToNat, Int.reduceAdd, Int.reduceSub, Int.reduceNeg, Int.reduceBEq, Int.reduceBNe, Nat.reduceBEq, Int.cast_ofNat_Int, decide_true, decide_false, ne_eq, eq_self_iff_true, beq_eq_false_iff_ne, bne_iff_ne, List.replicate, encLv]
  refine loop_q (X := List LK × List LK × Unit) (fun n x => v.kinds = x.1 ++ x.2.1 ∧ n = x.2.1.length ∧ (needsL v.kinds k (if stateB k then v.a4 else v.a3) = needsL x.2.1 k (if stateB k then v.a4 else v.a3))) (fun x => [(5, .int .i64 x.1.length)]) (fun _ => []) [4, 6, 7, 8, 9, 10, 11, 12, 13, 14, 15, 16, 17, 18, 19, 20, 21, 22, 23, 24, 25, 26] [] (v.kinds).length ([], v.kinds, ()) ⟨rfl, rfl, by first | rfl | assumption | (simp_all [needsL, needs]; done) | grind [needsL, needs]⟩ ?_ ?_
  · simp -implicitDefEqProofs only [SD, SF, SL, e_nf, reduceCtorEq, implies_true, ↓reduceIte, Nat.reduceEqDiff, Nat.reduceAdd, Nat.reduceMul, Nat.reduceSub, Nat.reduceLeDiff, Nat.reduceLT, Int.reduceLT, Int.reduceLE, Int.reduceEq, Int.reduceToNat, Int.reduceAdd, Int.reduceSub, Int.reduceNeg, Int.reduceBEq, Int.reduceBNe, Nat.reduceBEq, Int.cast_ofNat_Int, decide_true, decide_false, ne_eq, eq_self_iff_true, beq_eq_false_iff_ne, bne_iff_ne, List.replicate, encLv, needs, needsL] <;> simp
  · rintro n ⟨pre, rest, a⟩ ⟨he, rfl, hI⟩
    dsimp only at he hI
    cases rest with
    | nil =>
      obtain rfl : v.kinds = pre := by simpa using he
      clear he
      have hlt : ¬ (((v.kinds).length : Int) < ((v.kinds).length : Int)) := Int.lt_irrefl _
      iterate 30 (all_goals (try (first
        | ((with_reducible refine of_kSpec ?_); refine call_fz (spec67 k) rfl ?_)
        | (with_reducible refine ite_in (fun _ => ?_) (fun _ => ?_))
        | (with_reducible refine ⟨fun _ => ?_, fun _ => ?_⟩)
        | (with_reducible refine And.intro ?_ ?_)
        | (with_reducible intro _)
        | (with_reducible exact is_in _)
        | (simp -implicitDefEqProofs only [SD, SF, SL, e_nf, reduceCtorEq, implies_true, ↓reduceIte, Nat.reduceEqDiff, Nat.reduceAdd, Nat.reduceMul, Nat.reduceSub, Nat.reduceLeDiff, Nat.reduceLT, Int.reduceLT, Int.reduceLE, Int.reduceEq, Int.reduceToNat, Int.reduceAdd, Int.reduceSub, Int.reduceNeg, Int.reduceBEq, Int.reduceBNe, Nat.reduceBEq, Int.cast_ofNat_Int, decide_true, decide_false, ne_eq, eq_self_iff_true, beq_eq_false_iff_ne, bne_iff_ne, List.replicate, encLv, needs, needsL, *]))))
      all_goals (simp_all [needsL, needs])

    | cons x rest =>
      have hlt := cut_lt he
      have hx := cutD encLK he
      simp only [encLK] at hx
      simp -implicitDefEqProofs only [SD, SF, SL, e_nf, reduceCtorEq, implies_true, ↓reduceIte, Nat.reduceEqDiff, Nat.reduceAdd, Nat.reduceMul, Nat.reduceSub, Nat.reduceLeDiff, Nat.reduceLT, Int.reduceLT, Int.reduceLE, Int.reduceEq, Int.reduceToNat, Int.reduceAdd, Int.reduceSub, Int.reduceNeg, Int.reduceBEq, Int.reduceBNe, Nat.reduceBEq, Int.cast_ofNat_Int, decide_true, decide_false, ne_eq, eq_self_iff_true, beq_eq_false_iff_ne, bne_iff_ne, List.replicate, encLv, needs, needsL, hlt]
      intro hl
      have hw := wrap_len (n := pre.length) (m := (v.kinds).length) (cut_lt' he) (by simpa using hl)
      replace he := Hd.mk he
      iterate 30 (all_goals (try (first
        | ((with_reducible refine back_in rest.length [4, 6, 7, 8, 9, 10, 11, 12, 13, 14, 15, 16, 17, 18, 19, 20, 21, 22, 23, 24, 25, 26] [] (pre ++ [x], rest, a) ?_ ⟨?_, ?_, ?_⟩ ?_)
           · simp
           · exact cut_snoc he.out
           · rfl
           · first | rfl | assumption | (simp_all [needsL, needs]; done) | grind [needsL, needs]
           · first | (simp -implicitDefEqProofs only [SD, SF, SL, e_nf, reduceCtorEq, implies_true, ↓reduceIte, Nat.reduceEqDiff, Nat.reduceAdd, Nat.reduceMul, Nat.reduceSub, Nat.reduceLeDiff, Nat.reduceLT, Int.reduceLT, Int.reduceLE, Int.reduceEq, Int.reduceToNat, Int.reduceAdd, Int.reduceSub, Int.reduceNeg, Int.reduceBEq, Int.reduceBNe, Nat.reduceBEq, Int.cast_ofNat_Int, decide_true, decide_false, ne_eq, eq_self_iff_true, beq_eq_false_iff_ne, bne_iff_ne, List.replicate, encLv, needs, needsL] <;> simp <;> done) | (simp -implicitDefEqProofs only [SD, SF, SL, e_nf, reduceCtorEq, implies_true, ↓reduceIte, Nat.reduceEqDiff, Nat.reduceAdd, Nat.reduceMul, Nat.reduceSub, Nat.reduceLeDiff, Nat.reduceLT, Int.reduceLT, Int.reduceLE, Int.reduceEq, Int.reduceToNat, Int.reduceAdd, Int.reduceSub, Int.reduceNeg, Int.reduceBEq, Int.reduceBNe, Nat.reduceBEq, Int.cast_ofNat_Int, decide_true, decide_false, ne_eq, eq_self_iff_true, beq_eq_false_iff_ne, bne_iff_ne, List.replicate, encLv, needs, needsL, *] <;> simp_all <;> done))
        | ((with_reducible refine of_kSpec ?_); refine call_fz (spec67 k) rfl ?_)
        | (with_reducible refine ite_in (fun _ => ?_) (fun _ => ?_))
        | (with_reducible refine ⟨fun _ => ?_, fun _ => ?_⟩)
        | (with_reducible refine And.intro ?_ ?_)
        | (with_reducible intro _)
        | (with_reducible exact is_in _)
        | (simp -implicitDefEqProofs only [SD, SF, SL, e_nf, reduceCtorEq, implies_true, ↓reduceIte, Nat.reduceEqDiff, Nat.reduceAdd, Nat.reduceMul, Nat.reduceSub, Nat.reduceLeDiff, Nat.reduceLT, Int.reduceLT, Int.reduceLE, Int.reduceEq, Int.reduceToNat, Int.reduceAdd, Int.reduceSub, Int.reduceNeg, Int.reduceBEq, Int.reduceBNe, Nat.reduceBEq, Int.cast_ofNat_Int, decide_true, decide_false, ne_eq, eq_self_iff_true, beq_eq_false_iff_ne, bne_iff_ne, List.replicate, encLv, needs, needsL, *]))))
      all_goals (simp_all [needsL, needs])
def ac68 : AC := (.seq (.ops [⟨(some 1), none, (.box (.t 0))⟩, ⟨(some 2), none, (.mv (.c .e0))⟩]) (.seq (.ops [⟨(some 3), none, (.fld 2 (.t 1))⟩, ⟨(some 4), none, (.ld false 1 (.t 3))⟩, ⟨(some 5), none, (.fld 3 (.t 1))⟩, ⟨(some 6), none, (.ld false 1 (.t 5))⟩, ⟨(some 7), none, (.fld 4 (.t 1))⟩, ⟨(some 8), none, (.ld false 1 (.t 7))⟩, ⟨(some 9), none, (.fld 5 (.t 1))⟩, ⟨(some 10), none, (.ld false 1 (.t 9))⟩, ⟨(some 11), none, (.fld 6 (.t 1))⟩, ⟨(some 12), none, (.ld false 1 (.t 11))⟩, ⟨(some 13), none, (.fld 7 (.t 1))⟩, ⟨(some 14), none, (.ld false 1 (.t 13))⟩, ⟨(some 15), none, (.fld 8 (.t 1))⟩, ⟨(some 16), none, (.ld false 1 (.t 15))⟩, ⟨(some 17), none, (.buildSl 3 1 7 [(.int .i64 0)] [(0, (.t 4)), (1, (.t 6)), (2, (.t 8)), (3, (.t 10)), (4, (.t 12)), (5, (.t 14)), (6, (.t 16))])⟩, ⟨(some 2), none, (.mv (.t 17))⟩]) .ret))
theorem tr68 : Try.f68.body.bind (trCode Try.prog) = some (strip ac68) := by kernel_rfl
theorem spec68 (v : Lv) : Spec Try.prog 68 [.fz (.agg (encLv v))] (.fz (.sl 1 ((nums v).map fun n => [.int .i64 n]))) := by
  refine spec_at (n := 17) (ars := [(.t 2)]) (ac := ac68) Try.func68 (by kernel_rfl) (by kernel_rfl) tr68 (by kernel_rfl) ?_
  unfold ac68
  iterate 30 (all_goals (try (first
    | (with_reducible refine ite_in (fun _ => ?_) (fun _ => ?_))
    | (with_reducible refine ⟨fun _ => ?_, fun _ => ?_⟩)
    | (with_reducible refine And.intro ?_ ?_)
    | (with_reducible intro _)
    | (with_reducible exact is_in _)
    | (simp -implicitDefEqProofs only [SD, SF, SL, e_nf, reduceCtorEq, implies_true, ↓reduceIte, Nat.reduceEqDiff, Nat.reduceAdd, Nat.reduceMul, Nat.reduceSub, Nat.reduceLeDiff, Nat.reduceLT, Int.reduceLT, Int.reduceLE, Int.reduceEq, Int.reduceToNat, Int.reduceAdd, Int.reduceSub, Int.reduceNeg, Int.reduceBEq, Int.reduceBNe, Nat.reduceBEq, Int.cast_ofNat_Int, decide_true, decide_false, ne_eq, eq_self_iff_true, beq_eq_false_iff_ne, bne_iff_ne, List.replicate, encLv, nums, *]))))
def ac66 : AC := (.seq (.ops [⟨(some 1), none, (.box (.t 0))⟩, ⟨(some 2), none, (.alloc [(.int .i64 0), (.int .i64 0), (.int .i64 0), (.int .i64 0), (.int .i64 0), (.int .i64 0), (.int .i64 0)])⟩]) (.seq (.ops [⟨(some 3), none, (.fld 2 (.t 1))⟩, ⟨(some 4), none, (.ld false 1 (.t 3))⟩, ⟨(some 5), none, (.fld 3 (.t 1))⟩, ⟨(some 6), none, (.ld false 1 (.t 5))⟩, ⟨(some 7), none, (.fld 4 (.t 1))⟩, ⟨(some 8), none, (.ld false 1 (.t 7))⟩, ⟨(some 9), none, (.fld 5 (.t 1))⟩, ⟨(some 10), none, (.ld false 1 (.t 9))⟩, ⟨(some 11), none, (.fld 6 (.t 1))⟩, ⟨(some 12), none, (.ld false 1 (.t 11))⟩, ⟨(some 13), none, (.fld 7 (.t 1))⟩, ⟨(some 14), none, (.ld false 1 (.t 13))⟩, ⟨(some 15), none, (.fld 8 (.t 1))⟩, ⟨(some 16), none, (.ld false 1 (.t 15))⟩, ⟨(some 17), none, (.build [(.int .i64 0), (.int .i64 0), (.int .i64 0), (.int .i64 0), (.int .i64 0), (.int .i64 0), (.int .i64 0)] [(0, (1, (.t 4))), (1, (1, (.t 6))), (2, (1, (.t 8))), (3, (1, (.t 10))), (4, (1, (.t 12))), (5, (1, (.t 14))), (6, (1, (.t 16)))])⟩, ⟨none, none, (.sto 7 (.t 2) (.t 17))⟩]) .ret))
theorem tr66 : Try.f66.body.bind (trCode Try.prog) = some (strip ac66) := by kernel_rfl
theorem spec66 (v : Lv) : Spec Try.prog 66 [.fz (.agg (encLv v))] (.fz (.agg ((nums v).map (.int .i64)))) := by
  refine spec_at (n := 17) (ars := [(.c true 7 2)]) (ac := ac66) Try.func66 (by kernel_rfl) (by kernel_rfl) tr66 (by kernel_rfl) ?_
  unfold ac66
  iterate 30 (all_goals (try (first
    | (with_reducible refine ite_in (fun _ => ?_) (fun _ => ?_))
    | (with_reducible refine ⟨fun _ => ?_, fun _ => ?_⟩)
    | (with_reducible refine And.intro ?_ ?_)
    | (with_reducible intro _)
    | (with_reducible exact is_in _)
    | (simp -implicitDefEqProofs only [SD, SF, SL, e_nf, reduceCtorEq, implies_true, ↓reduceIte, Nat.reduceEqDiff, Nat.reduceAdd, Nat.reduceMul, Nat.reduceSub, Nat.reduceLeDiff, Nat.reduceLT, Int.reduceLT, Int.reduceLE, Int.reduceEq, Int.reduceToNat, Int.reduceAdd, Int.reduceSub, Int.reduceNeg, Int.reduceBEq, Int.reduceBNe, Nat.reduceBEq, Int.cast_ofNat_Int, decide_true, decide_false, ne_eq, eq_self_iff_true, beq_eq_false_iff_ne, bne_iff_ne, List.replicate, encLv, nums, *]))))
def ac65 : AC := (.seq (.ops [⟨(some 5), none, (.mv (.c (.bool false)))⟩]) (.seq (.ops [⟨(some 6), none, (.mv (.t 0))⟩, ⟨(some 7), none, (.mv (.t 1))⟩, ⟨(some 8), none, (.bin .neq (.t 6) (.t 7))⟩, ⟨(some 9), none, (.mv (.t 8))⟩, ⟨(some 10), (some (9, true)), (.mv (.t 0))⟩, ⟨(some 11), (some (9, true)), (.ld false 1 (.t 2))⟩, ⟨(some 12), (some (9, true)), (.bin .gtr (.t 10) (.t 11))⟩, ⟨(some 13), (some (9, true)), (.mv (.t 12))⟩, ⟨(some 14), (some (13, false)), (.mv (.t 1))⟩, ⟨(some 15), (some (13, false)), (.ld false 1 (.t 2))⟩, ⟨(some 16), (some (13, false)), (.bin .gtr (.t 14) (.t 15))⟩, ⟨(some 17), (some (9, true)), (.pick (.t 13) (.c (.bool true)) (.t 16))⟩, ⟨(some 18), none, (.pick (.t 9) (.t 17) (.c (.bool false)))⟩, ⟨(some 5), none, (.mv (.t 18))⟩]) .ret))
theorem tr65 : Try.f65.body.bind (trCode Try.prog) = some (strip ac65) := by kernel_rfl
theorem spec65 (was iz own : Int) : Spec Try.prog 65 [.fz (.int .i64 was), .fz (.int .i64 iz), .fz (.pf [.int .i64 own])] (.fz (.bool (!okN own was iz))) := by
  refine spec_at (n := 16) (ars := [(.t 5)]) (ac := ac65) Try.func65 (by kernel_rfl) (by kernel_rfl) tr65 (by kernel_rfl) ?_
  unfold ac65
  iterate 30 (all_goals (try (first
    | (with_reducible refine ite_in (fun _ => ?_) (fun _ => ?_))
    | (with_reducible refine ⟨fun _ => ?_, fun _ => ?_⟩)
    | (with_reducible refine And.intro ?_ ?_)
    | (with_reducible intro _)
    | (with_reducible exact is_in _)
    | (simp -implicitDefEqProofs only [SD, SF, SL, e_nf, reduceCtorEq, implies_true, ↓reduceIte, Nat.reduceEqDiff, Nat.reduceAdd, Nat.reduceMul, Nat.reduceSub, Nat.reduceLeDiff, Nat.reduceLT, Int.reduceLT, Int.reduceLE, Int.reduceEq, Int.reduceToNat, Int.reduceAdd, Int.reduceSub, Int.reduceNeg, Int.reduceBEq, Int.reduceBNe, Nat.reduceBEq, Int.cast_ofNat_Int, decide_true, decide_false, ne_eq, eq_self_iff_true, beq_eq_false_iff_ne, bne_iff_ne, List.replicate, *]))))
  all_goals (first | (simp_all [okN]; done) | grind [okN])
def ac69 : AC := (.seq (.ops [⟨(some 6), none, (.mv (.c (.bool false)))⟩]) (.seq (.ops [⟨(some 7), none, (.mv (.t 0))⟩, ⟨(some 8), none, (.mv (.t 1))⟩, ⟨(some 9), none, (.bin .eql (.t 7) (.t 8))⟩, ⟨(some 10), none, (.mv (.t 9))⟩, ⟨(some 11), (some (10, false)), (.mv (.t 0))⟩, ⟨(some 12), (some (10, false)), (.mv (.t 2))⟩, ⟨(some 13), (some (10, false)), (.bin .leq (.t 11) (.t 12))⟩, ⟨(some 14), (some (10, false)), (.mv (.t 13))⟩, ⟨(some 15), (some (14, true)), (.mv (.t 1))⟩, ⟨(some 16), (some (14, true)), (.mv (.t 2))⟩, ⟨(some 17), (some (14, true)), (.bin .leq (.t 15) (.t 16))⟩, ⟨(some 18), (some (10, false)), (.pick (.t 14) (.t 17) (.c (.bool false)))⟩, ⟨(some 19), none, (.pick (.t 10) (.c (.bool true)) (.t 18))⟩, ⟨(some 6), none, (.mv (.t 19))⟩]) .ret))
theorem tr69 : Try.f69.body.bind (trCode Try.prog) = some (strip ac69) := by kernel_rfl
theorem spec69 (was iz own : Int) : Spec Try.prog 69 [.fz (.int .i64 was), .fz (.int .i64 iz), .fz (.int .i64 own)] (.fz (.bool (okN own was iz))) := by
  refine spec_at (n := 17) (ars := [(.t 6)]) (ac := ac69) Try.func69 (by kernel_rfl) (by kernel_rfl) tr69 (by kernel_rfl) ?_
  unfold ac69
  iterate 30 (all_goals (try (first
    | (with_reducible refine ite_in (fun _ => ?_) (fun _ => ?_))
    | (with_reducible refine ⟨fun _ => ?_, fun _ => ?_⟩)
    | (with_reducible refine And.intro ?_ ?_)
    | (with_reducible intro _)
    | (with_reducible exact is_in _)
    | (simp -implicitDefEqProofs only [SD, SF, SL, e_nf, reduceCtorEq, implies_true, ↓reduceIte, Nat.reduceEqDiff, Nat.reduceAdd, Nat.reduceMul, Nat.reduceSub, Nat.reduceLeDiff, Nat.reduceLT, Int.reduceLT, Int.reduceLE, Int.reduceEq, Int.reduceToNat, Int.reduceAdd, Int.reduceSub, Int.reduceNeg, Int.reduceBEq, Int.reduceBNe, Nat.reduceBEq, Int.cast_ofNat_Int, decide_true, decide_false, ne_eq, eq_self_iff_true, beq_eq_false_iff_ne, bne_iff_ne, List.replicate, *]))))
  all_goals (first | (simp_all [okN]; done) | grind [okN])
def ac60 : AC := (.seq (.ops [⟨(some 2), none, (.alloc [.e0, .e0, (.int .i64 0), (.int .i64 0), (.int .i64 0), (.int .i64 0), (.int .i64 0), (.int .i64 0), (.int .i64 0)])⟩]) (.seq (.ops [⟨(some 4), none, (.build [.e0, .e0, (.int .i64 0), (.int .i64 0), (.int .i64 0), (.int .i64 0), (.int .i64 0), (.int .i64 0), (.int .i64 0)] [(6, (1, (.c (.int .i64 50)))), (7, (1, (.c (.int .i64 50)))), (8, (1, (.c (.int .i64 50))))])⟩, ⟨(some 3), none, (.alloc [.e0, .e0, (.int .i64 0), (.int .i64 0), (.int .i64 0), (.int .i64 0), (.int .i64 0), (.int .i64 0), (.int .i64 0)])⟩, ⟨none, none, (.sto 9 (.t 3) (.t 4))⟩]) (.seq (.seq (.ops [⟨(some 5), none, (.mv (.t 0))⟩, ⟨(some 6), none, (.bin .neq (.t 5) (.c (.str [])))⟩]) (.cond (.t 6) (.ops [⟨(some 7), none, (.mv (.t 0))⟩, ⟨(some 8), none, (.build [(.str []), (.int .i64 0)] [(0, (1, (.t 7))), (1, (1, (.c (.int .i64 100))))])⟩, ⟨(some 9), none, (.buildSl 62 2 1 [(.str []), (.int .i64 0)] [(0, (.t 8))])⟩, ⟨(some 10), none, (.fld 0 (.t 3))⟩, ⟨none, none, (.sto 1 (.t 10) (.t 9))⟩]) .skip)) (.seq (.ops [⟨(some 11), none, (.ld true 9 (.t 3))⟩, ⟨none, none, (.sto 9 (.t 2) (.t 11))⟩]) .ret))))
theorem tr60 : Try.f60.body.bind (trCode Try.prog) = some (strip ac60) := by kernel_rfl
theorem spec60 (c : List UInt8) : Spec Try.prog 60 [.fz (.str c)] (.fz (.agg (encLv (dflt c)))) := by
  refine spec_at (n := 11) (ars := [(.c true 9 2)]) (ac := ac60) Try.func60 (by kernel_rfl) (by kernel_rfl) tr60 (by kernel_rfl) ?_
  unfold ac60
  iterate 30 (all_goals (try (first
    | (with_reducible refine ite_in (fun _ => ?_) (fun _ => ?_))
    | (with_reducible refine ⟨fun _ => ?_, fun _ => ?_⟩)
    | (with_reducible refine And.intro ?_ ?_)
    | (with_reducible intro _)
    | (with_reducible exact is_in _)
    | (simp -implicitDefEqProofs only [SD, SF, SL, e_nf, reduceCtorEq, implies_true, ↓reduceIte, Nat.reduceEqDiff, Nat.reduceAdd, Nat.reduceMul, Nat.reduceSub, Nat.reduceLeDiff, Nat.reduceLT, Int.reduceLT, Int.reduceLE, Int.reduceEq, Int.reduceToNat, Int.reduceAdd, Int.reduceSub, Int.reduceNeg, Int.reduceBEq, Int.reduceBNe, Nat.reduceBEq, Int.cast_ofNat_Int, decide_true, decide_false, ne_eq, eq_self_iff_true, beq_eq_false_iff_ne, bne_iff_ne, List.replicate, encLv, dflt, encLU, *]))))
def ac48 : AC := (.seq (.ops [⟨(some 2), none, (.alloc [.e0, .e0, (.int .i64 0), (.int .i64 0), (.int .i64 0), (.int .i64 0), (.int .i64 0), (.int .i64 0), (.int .i64 0)])⟩]) (.seq (.ops [⟨(some 4), none, (.build [.e0, .e0, (.int .i64 0), (.int .i64 0), (.int .i64 0), (.int .i64 0), (.int .i64 0), (.int .i64 0), (.int .i64 0)] [(6, (1, (.c (.int .i64 50)))), (7, (1, (.c (.int .i64 50)))), (8, (1, (.c (.int .i64 50))))])⟩, ⟨(some 3), none, (.alloc [.e0, .e0, (.int .i64 0), (.int .i64 0), (.int .i64 0), (.int .i64 0), (.int .i64 0), (.int .i64 0), (.int .i64 0)])⟩, ⟨none, none, (.sto 9 (.t 3) (.t 4))⟩]) (.seq (.seq (.ops [⟨(some 5), none, (.mv (.t 0))⟩, ⟨(some 6), none, (.bin .neq (.t 5) (.c (.str [])))⟩]) (.cond (.t 6) (.ops [⟨(some 7), none, (.mv (.t 0))⟩, ⟨(some 8), none, (.build [(.str []), (.int .i64 0)] [(0, (1, (.t 7))), (1, (1, (.c (.int .i64 100))))])⟩, ⟨(some 9), none, (.buildSl 62 2 1 [(.str []), (.int .i64 0)] [(0, (.t 8))])⟩, ⟨(some 10), none, (.fld 0 (.t 3))⟩, ⟨none, none, (.sto 1 (.t 10) (.t 9))⟩]) .skip)) (.seq (.ops [⟨(some 11), none, (.ld true 9 (.t 3))⟩, ⟨none, none, (.sto 9 (.t 2) (.t 11))⟩]) .ret))))
theorem tr48 : Try.f48.body.bind (trCode Try.prog) = some (strip ac48) := by kernel_rfl
theorem spec48 (c : List UInt8) : Spec Try.prog 48 [.fz (.str c)] (.fz (.agg (encLv (dflt c)))) := by
  refine spec_at (n := 11) (ars := [(.c true 9 2)]) (ac := ac48) Try.func48 (by kernel_rfl) (by kernel_rfl) tr48 (by kernel_rfl) ?_
  unfold ac48
  iterate 30 (all_goals (try (first
    | (with_reducible refine ite_in (fun _ => ?_) (fun _ => ?_))
    | (with_reducible refine ⟨fun _ => ?_, fun _ => ?_⟩)
    | (with_reducible refine And.intro ?_ ?_)
    | (with_reducible intro _)
    | (with_reducible exact is_in _)
    | (simp -implicitDefEqProofs only [SD, SF, SL, e_nf, reduceCtorEq, implies_true, ↓reduceIte, Nat.reduceEqDiff, Nat.reduceAdd, Nat.reduceMul, Nat.reduceSub, Nat.reduceLeDiff, Nat.reduceLT, Int.reduceLT, Int.reduceLE, Int.reduceEq, Int.reduceToNat, Int.reduceAdd, Int.reduceSub, Int.reduceNeg, Int.reduceBEq, Int.reduceBNe, Nat.reduceBEq, Int.cast_ofNat_Int, decide_true, decide_false, ne_eq, eq_self_iff_true, beq_eq_false_iff_ne, bne_iff_ne, List.replicate, encLv, dflt, encLU, *]))))
def ac70 : AC := (.seq (.ops [⟨(some 4), none, (.box (.t 0))⟩, ⟨(some 5), none, (.box (.t 1))⟩, ⟨(some 8), none, (.mv (.c (.bool false)))⟩]) (.seq (.draw (.q false ⟨(some 12), none, (.ld true 9 (.t 4))⟩ (.q false ⟨(some 13), none, (.mv (.t 3))⟩ (.q false ⟨(some 15), none, (.ld true 9 (.t 4))⟩ (.q false ⟨(some 16), none, (.mv (.t 2))⟩ (.q false ⟨(some 18), none, (.ld true 9 (.t 5))⟩ (.q false ⟨(some 19), none, (.mv (.t 2))⟩ (.op ⟨(some 14), none, (.call false 21 [(.t 12), (.t 13)])⟩ (.op ⟨(some 17), none, (.call false 21 [(.t 15), (.t 16)])⟩ (.op ⟨(some 20), none, (.call false 21 [(.t 18), (.t 19)])⟩ (.q false ⟨(some 9), none, (.mv (.t 14))⟩ (.q false ⟨(some 10), none, (.mv (.t 17))⟩ (.q false ⟨(some 11), none, (.mv (.t 20))⟩ .nil))))))))))))) (.seq (.ops [⟨(some 21), none, (.mv (.t 10))⟩, ⟨(some 22), none, (.mv (.t 11))⟩, ⟨(some 23), none, (.mv (.t 9))⟩, ⟨(some 24), none, (.call false 69 [(.t 21), (.t 22), (.t 23)])⟩, ⟨(some 25), none, (.mv (.t 24))⟩, ⟨(some 26), (some (25, true)), (.mv (.t 10))⟩, ⟨(some 27), (some (25, true)), (.mv (.t 11))⟩, ⟨(some 28), (some (25, true)), (.bin .eql (.t 26) (.t 27))⟩, ⟨(some 29), (some (25, true)), (.mv (.t 28))⟩, ⟨(some 30), (some (29, false)), (.mv (.t 2))⟩, ⟨(some 31), (some (29, false)), (.mv (.t 3))⟩, ⟨(some 32), (some (29, false)), (.bin .eql (.t 30) (.t 31))⟩, ⟨(some 33), (some (25, true)), (.pick (.t 29) (.c (.bool true)) (.t 32))⟩, ⟨(some 34), (some (25, true)), (.mv (.t 33))⟩, ⟨(some 35), (some (34, false)), (.mv (.t 10))⟩, ⟨(some 36), (some (34, false)), (.mv (.t 9))⟩, ⟨(some 37), (some (34, false)), (.bin .lss (.t 35) (.t 36))⟩, ⟨(some 38), (some (25, true)), (.pick (.t 34) (.c (.bool true)) (.t 37))⟩, ⟨(some 39), none, (.pick (.t 25) (.t 38) (.c (.bool false)))⟩, ⟨(some 8), none, (.mv (.t 39))⟩]) .ret)))
theorem tr70 : Try.f70.body.bind (trCode Try.prog) = some (strip ac70) := by kernel_rfl
theorem spec70 (old new : Lv) (u user : List UInt8) : Spec Try.prog 70 [.fz (.agg (encLv old)), .fz (.agg (encLv new)), .fz (.str u), .fz (.str user)] (.fz (.bool (okU old new user u))) := by
  refine spec_at (n := 36) (ars := [(.t 8)]) (ac := ac70) Try.func70 (by kernel_rfl) (by kernel_rfl) tr70 (by kernel_rfl) ?_
  unfold ac70
  iterate 30 (all_goals (try (first
    | ((with_reducible refine of_kSpec ?_); refine call_fz (spec21 old user) rfl ?_)
    | ((with_reducible refine of_kSpec ?_); refine call_fz (spec21 old u) rfl ?_)
    | ((with_reducible refine of_kSpec ?_); refine call_fz (spec21 new u) rfl ?_)
    | ((with_reducible refine of_kSpec ?_); refine call_fz (spec69 _ _ _) rfl ?_)
    | (with_reducible refine ite_in (fun _ => ?_) (fun _ => ?_))
    | (with_reducible refine ⟨fun _ => ?_, fun _ => ?_⟩)
    | (with_reducible refine And.intro ?_ ?_)
    | (with_reducible intro _)
    | (with_reducible exact is_in _)
    | (simp -implicitDefEqProofs only [SD, SF, SL, e_nf, reduceCtorEq, implies_true, ↓reduceIte, Nat.reduceEqDiff, Nat.reduceAdd, Nat.reduceMul, Nat.reduceSub, Nat.reduceLeDiff, Nat.reduceLT, Int.reduceLT, Int.reduceLE, Int.reduceEq, Int.reduceToNat, Int.reduceAdd, Int.reduceSub, Int.reduceNeg, Int.reduceBEq, Int.reduceBNe, Nat.reduceBEq, Int.cast_ofNat_Int, decide_true, decide_false, ne_eq, eq_self_iff_true, beq_eq_false_iff_ne, bne_iff_ne, List.replicate, encLv, *]))))
  all_goals (first | (simp_all [okU, userV]; done) | grind [okU, userV])

end Go.Proofs.Ytcpiaamaddfbcaa.E
