/-
  AuA: walks of functions of the program at data level.
-/
import Derived.Test.YtcolebkklojccaaGreatProg
import Derived.Test.YtcolebkklojccaaGreatEngZ
import Derived.KernelRfl
set_option linter.unusedVariables false
set_option linter.unusedSimpArgs false
namespace Go.Proofs.YtcolebkklojccaaGreat.E
open Go
set_option maxHeartbeats 4000000
set_option maxRecDepth 100000
set_option linter.unusedSimpArgs false
set_option linter.unusedVariables false
attribute [local congr] c_wp c_ops c_op c_opS c_run c_runS c_dt c_seq c_blk c_loop c_S c_put c_bind c_mv c_pick c_nt c_ng c_bin c_binI c_binS c_beq c_B c_eqa c_hd c_cells c_blkK c_box c_vec c_mp c_nck c_mks c_appn c_mkm c_mput c_mlk c_mrm c_take c_ld c_ldF c_cellsK c_st c_fld c_fldv c_ix c_ixp c_ixv c_ixs c_sub c_subs c_len c_lens c_src c_dst c_ow c_app c_ext c_mm c_conv c_str c_isn c_fill c_rows c_boxo c_frz c_frzO c_frzA c_frzV c_spec c_specO c_opsP c_opP c_runP c_specP c_Z c_qretP c_fz c_fn c_gv c_cond c_res1 c_resL c_ret c_qret c_ite c_unr c_nx c_bk c_cut c_is
attribute [local irreducible] dwp

structure LU where
  user : List UInt8
  n : Int
def encLU (l : LU) : List DV := [.str l.user, .int .i64 l.n]
structure LK where
  kind : Int
  n : Int
def encLK (l : LK) : List DV := [.int .i64 l.kind, .int .i64 l.n]
def encS (s : List UInt8) : List DV := [.str s]
def encN (n : Int) : List DV := [.int .i64 n]
structure Lv where
  users : List LU
  kinds : List LK
  a2 : Int
  a3 : Int
  a4 : Int
  a5 : Int
  a6 : Int
  a7 : Int
  a8 : Int
def encLv (v : Lv) : List DV := [.sl 2 (v.users.map encLU), .sl 2 (v.kinds.map encLK), .int .i64 v.a2, .int .i64 v.a3, .int .i64 v.a4, .int .i64 v.a5, .int .i64 v.a6, .int .i64 v.a7, .int .i64 v.a8]
structure Ev where
  ident : Int
  room : List UInt8
  sender : List UInt8
  kind : Int
  isState : Bool
  key : List UInt8
  time : Int
  depth : Int
  prev : List Int
  auth : List Int
  txt : List UInt8
  n : Int
  target : Int
  thread : Bool
  via : List UInt8
  allow : List (List UInt8)
  deny : List (List UInt8)
  lv : Lv
  hash : Int
  sigS : List UInt8
  sigN : Int
def encEv (e : Ev) : List DV := [.int .i64 e.ident, .str e.room, .str e.sender, .int .i64 e.kind, .bool e.isState, .str e.key, .int .i64 e.time, .int .i64 e.depth, .sl 1 (e.prev.map encN), .sl 1 (e.auth.map encN), .str e.txt, .int .i64 e.n, .int .i64 e.target, .bool e.thread, .str e.via, .sl 1 (e.allow.map encS), .sl 1 (e.deny.map encS),
  .sl 2 (e.lv.users.map encLU), .sl 2 (e.lv.kinds.map encLK), .int .i64 e.lv.a2, .int .i64 e.lv.a3, .int .i64 e.lv.a4, .int .i64 e.lv.a5, .int .i64 e.lv.a6, .int .i64 e.lv.a7, .int .i64 e.lv.a8, .int .i64 e.hash, .str e.sigS, .int .i64 e.sigN]
theorem nlt_self (n : Nat) : ¬ ((n : Int) < (n : Int)) := Int.lt_irrefl _
theorem zip_of_len {α : Type} : ∀ {a b : List α}, a.length = b.length → ∃ z : List (α × α), a = z.map Prod.fst ∧ b = z.map Prod.snd
  | [], [], _ => ⟨[], rfl, rfl⟩
  | x :: a, y :: b, h => by
    obtain ⟨z, h1, h2⟩ := zip_of_len (a := a) (b := b) (by simpa using h)
    exact ⟨(x, y) :: z, by simp [h1], by simp [h2]⟩
  | [], _ :: _, h => by simp at h
  | _ :: _, [], h => by simp at h
instance : DecidableEq LU := fun a b => by
  cases a; cases b; simp only [LU.mk.injEq]; infer_instance
instance : DecidableEq LK := fun a b => by
  cases a; cases b; simp only [LK.mk.injEq]; infer_instance
instance : DecidableEq Lv := fun a b => by
  cases a; cases b; simp only [Lv.mk.injEq]; infer_instance
instance : DecidableEq Ev := fun a b => by
  cases a; cases b; simp only [Ev.mk.injEq]; infer_instance
theorem LU_eq (a b : LU) : (a = b) = (a.user = b.user ∧ a.n = b.n) := by cases a; cases b; simp
theorem LK_eq (a b : LK) : (a = b) = (a.kind = b.kind ∧ a.n = b.n) := by cases a; cases b; simp
theorem len_cast {α β : Type} (a : List α) (b : List β) : ((a.length : Int) = b.length) = (a.length = b.length) := propext ⟨fun h => by omega, fun h => by omega⟩
def eqz {α : Type} (z : List (α × α)) : Prop := z.map Prod.fst = z.map Prod.snd
instance {α : Type} [DecidableEq α] (z : List (α × α)) : Decidable (eqz z) := inferInstanceAs (Decidable (z.map Prod.fst = z.map Prod.snd))
theorem eqz_nil {α : Type} : eqz ([] : List (α × α)) = True := by simp [eqz]
theorem eqz_end {α : Type} (pre : List (α × α)) : eqz (pre ++ []) = eqz pre := by simp
theorem eqz_mid {α : Type} (pre : List (α × α)) (x : α × α) (rest : List (α × α)) : eqz (pre ++ x :: rest) = (eqz pre ∧ x.1 = x.2 ∧ eqz rest) := by
  unfold eqz
  rw [List.map_append, List.map_append, List.map_cons, List.map_cons]
  apply propext
  constructor
  · intro h
    obtain ⟨h1, h2⟩ := List.append_inj h (by simp)
    obtain ⟨h3, h4⟩ := List.cons.inj h2
    exact ⟨h1, h3, h4⟩
  · rintro ⟨h1, h2, h3⟩
    rw [h1, h2, h3]
theorem eqz_dec {α : Type} [DecidableEq α] (z : List (α × α)) : decide (z.map Prod.fst = z.map Prod.snd) = decide (eqz z) := rfl
theorem wr_lit : (IntKind.i64.wrap 1 = 1 ∧ IntKind.i64.wrap 2 = 2 ∧ IntKind.i64.wrap 3 = 3 ∧ IntKind.i64.wrap 4 = 4) ∧ (IntKind.i64.wrap 5 = 5 ∧ IntKind.i64.wrap 6 = 6 ∧ IntKind.i64.wrap 7 = 7 ∧ IntKind.i64.wrap 8 = 8) := by decide
theorem all_cut {α : Type} {p : α → Bool} {es pre : List α} {x : α} {rest : List α} (h : es = pre ++ x :: rest) (hx : p x = false) : es.all p = false := by
  subst h
  simp [hx]
theorem all_snoc {α : Type} {p : α → Bool} {pre : List α} {x : α} (h : pre.all p = true) (hx : p x = true) : (pre ++ [x]).all p = true := by
  rw [List.all_append, h]
  simp [hx]

def userL : List LU → List UInt8 → Int → Int
  | [], _, d => d
  | x :: l, u, d => if x.user = u then x.n else userL l u d
def userV (v : Lv) (u : List UInt8) : Int := userL v.users u v.a2
def stateB (k : Int) : Bool := decide (1 ≤ k ∧ k ≤ 10)
def needsL : List LK → Int → Int → Int
  | [], _, d => d
  | x :: l, k, d => if x.kind = k then x.n else needsL l k d
def needs (v : Lv) (k : Int) : Int := needsL v.kinds k (if stateB k then v.a4 else v.a3)
def nums (v : Lv) : List Int := [v.a2, v.a3, v.a4, v.a5, v.a6, v.a7, v.a8]
def okN (own was iz : Int) : Bool := decide (was = iz ∨ was ≤ own ∧ iz ≤ own)
def dflt (c : List UInt8) : Lv := ⟨if c = [] then [] else [⟨c, 100⟩], [], 0, 0, 0, 0, 50, 50, 50⟩
def idxL : List Ev → Int → Nat → Int
  | [], _, _ => -1
  | e :: l, k, i => if e.kind = k then i else idxL l k (i + 1)
def findL : List Ev → Int → Option Ev
  | [], _ => none
  | e :: l, k => if e.kind = k then some e else findL l k
theorem idx_spec : ∀ (es : List Ev) (k : Int) (i : Nat), (∃ pre e rest, es = pre ++ e :: rest ∧ idxL es k i = ((i + pre.length : Nat) : Int) ∧ findL es k = some e) ∨ (idxL es k i = -1 ∧ findL es k = none)
  | [], _, _ => .inr ⟨rfl, rfl⟩
  | x :: es, k, i => by
    unfold idxL findL
    by_cases h : x.kind = k
    · rw [if_pos h, if_pos h]
      exact .inl ⟨[], x, es, rfl, by simp, rfl⟩
    · rw [if_neg h, if_neg h]
      rcases idx_spec es k (i + 1) with ⟨pre, e, rest, h1, h2, h3⟩ | h1
      · exact .inl ⟨x :: pre, e, rest, by rw [h1]; rfl, by rw [h2]; simp; omega, h3⟩
      · exact .inr h1
def creatorL (es : List Ev) : List UInt8 := match findL es 1 with
  | some e => e.sender
  | none => []
def levelsL (es : List Ev) : Lv := match findL es 3 with
  | some e => e.lv
  | none => dflt (creatorL es)
def creL : List Ev → List UInt8
  | [] => []
  | e :: l => if e.kind = 1 then e.sender else creL l
theorem creL_eq : ∀ es : List Ev, creL es = creatorL es
  | [] => rfl
  | e :: l => by
    have ih := creL_eq l
    unfold creatorL at *
    unfold creL findL
    by_cases h : e.kind = 1
    · simp [h]
    · simp [h, ih]
def okNs (old new : Lv) (user : List UInt8) : Bool := okN (userV old user) old.a2 new.a2 && okN (userV old user) old.a3 new.a3 && okN (userV old user) old.a4 new.a4 && okN (userV old user) old.a5 new.a5 && okN (userV old user) old.a6 new.a6 && okN (userV old user) old.a7 new.a7 && okN (userV old user) old.a8 new.a8
def okK (old new : Lv) (user : List UInt8) (x : LK) : Bool := okN (userV old user) (needs old x.kind) (needs new x.kind)
def okU (old new : Lv) (user u : List UInt8) : Bool := okN (userV old user) (userV old u) (userV new u) && decide (userV old u = userV new u ∨ u = user ∨ userV old u < userV old user)
def okX (old new : Lv) (user : List UInt8) (x : LU) : Bool := okU old new user x.user
def chgR (old new : Lv) (user : List UInt8) : Int := if (okNs old new user && (old.kinds ++ new.kinds).all (okK old new user) && (old.users ++ new.users).all (okX old new user)) = true then 0 else 20
theorem chgR_N {old new : Lv} {user : List UInt8} (h : okNs old new user = false) : chgR old new user = 20 := by simp [chgR, h]
theorem chgR_K {old new : Lv} {user : List UInt8} (h : (old.kinds ++ new.kinds).all (okK old new user) = false) : chgR old new user = 20 := by
  unfold chgR
  rw [h]
  simp
theorem chgR_K1 {old new : Lv} {user : List UInt8} (h : old.kinds.all (okK old new user) = false) : chgR old new user = 20 := chgR_K (by rw [List.all_append, h]; rfl)
theorem chgR_K2 {old new : Lv} {user : List UInt8} (h : new.kinds.all (okK old new user) = false) : chgR old new user = 20 := chgR_K (by rw [List.all_append, h]; simp)
theorem chgR_U {old new : Lv} {user : List UInt8} (h : (old.users ++ new.users).all (okX old new user) = false) : chgR old new user = 20 := by
  unfold chgR
  rw [h]
  simp
theorem chgR_U1 {old new : Lv} {user : List UInt8} (h : old.users.all (okX old new user) = false) : chgR old new user = 20 := chgR_U (by rw [List.all_append, h]; rfl)
theorem chgR_U2 {old new : Lv} {user : List UInt8} (h : new.users.all (okX old new user) = false) : chgR old new user = 20 := chgR_U (by rw [List.all_append, h]; simp)
theorem chgR_ok {old new : Lv} {user : List UInt8} (h1 : okNs old new user = true) (h2 : old.kinds.all (okK old new user) = true) (h2' : new.kinds.all (okK old new user) = true) (h3 : old.users.all (okX old new user) = true) (h4 : new.users.all (okX old new user) = true) : chgR old new user = 0 := by
  unfold chgR
  rw [h1, List.all_append, List.all_append, h2, h2', h3, h4]
  rfl
def ac91 : AC := (.seq (.ops [⟨(some 2), none, (.box (.t 0))⟩, ⟨(some 4), none, (.mv (.c (.int .i64 0)))⟩]) (.seq (.seq (.ops [⟨(some 7), none, (.fld 0 (.t 2))⟩, ⟨(some 8), none, (.ld false 1 (.t 7))⟩, ⟨(some 9), none, (.len (.t 8))⟩, ⟨(some 10), none, (.mv (.c (.int .i64 0)))⟩]) (.block 0 (.loop (.seq (.ops [⟨(some 11), none, (.bin .lss (.t 10) (.t 9))⟩]) (.seq (.cond (.t 11) .skip (.exit 0)) (.seq (.block 1 (.seq (.ops [⟨(some 12), none, (.ix 2 (.t 8) (.t 10))⟩, ⟨(some 13), none, (.ld true 2 (.t 12))⟩, ⟨(some 6), none, (.alloc [(.str []), (.int .i64 0)])⟩, ⟨none, none, (.sto 2 (.t 6) (.t 13))⟩]) (.seq (.ops [⟨(some 14), none, (.fld 0 (.t 6))⟩, ⟨(some 15), none, (.ld false 1 (.t 14))⟩, ⟨(some 16), none, (.mv (.t 1))⟩, ⟨(some 17), none, (.bin .eql (.t 15) (.t 16))⟩]) (.cond (.t 17) (.seq (.ops [⟨(some 18), none, (.fld 1 (.t 6))⟩, ⟨(some 19), none, (.ld false 1 (.t 18))⟩, ⟨(some 4), none, (.mv (.t 19))⟩]) .ret) .skip)))) (.ops [⟨(some 20), none, (.bin .add (.t 10) (.c (.int .i64 1)))⟩, ⟨(some 10), none, (.mv (.t 20))⟩]))))))) (.seq (.ops [⟨(some 21), none, (.fld 2 (.t 2))⟩, ⟨(some 22), none, (.ld false 1 (.t 21))⟩, ⟨(some 4), none, (.mv (.t 22))⟩]) .ret)))
theorem tr91 : Tryz.f91.body.bind (trCode Tryz.prog) = some (strip ac91) := by kernel_rfl
theorem spec91 (v : Lv) (u : List UInt8) : Spec Tryz.prog 91 [.fz (.agg (encLv v)), .fz (.str u)] (.fz (.int .i64 (userL v.users u v.a2))) := by
  refine spec_at (n := 21) (ars := [(.t 4)]) (ac := ac91) Tryz.func91 (by kernel_rfl) (by kernel_rfl) tr91 (by kernel_rfl) ?_
  unfold ac91
  simp -implicitDefEqProofs only [SD, SF, SL, e_nf, reduceCtorEq, implies_true, ↓reduceIte, Nat.reduceEqDiff, Nat.reduceAdd, Nat.reduceMul, Nat.reduceSub, Nat.reduceLeDiff, Nat.reduceLT, Int.reduceLT, Int.reduceLE, Int.reduceEq, Int.reduceToNat, Int.reduceAdd, Int.reduceSub, Int.reduceNeg, Int.reduceBEq, Int.reduceBNe, Nat.reduceBEq, Int.cast_ofNat_Int, decide_true, decide_false, ne_eq, eq_self_iff_true, beq_eq_false_iff_ne, bne_iff_ne, List.replicate, encLv]
  intro hl
  refine loop_q (X := List LU × List LU × Unit) (fun n x => v.users = x.1 ++ x.2.1 ∧ n = x.2.1.length ∧ (userL v.users u v.a2 = userL x.2.1 u v.a2)) (fun x => [(10, .int .i64 x.1.length)]) (fun _ => []) [4, 6, 11, 12, 13, 14, 15, 16, 17, 18, 19, 20] [6]  (v.users).length ([], v.users, ()) ⟨rfl, rfl, by first | rfl | assumption | (simp_all [userL]; done) | grind [userL]⟩ ?_ ?_
  · simp -implicitDefEqProofs only [SD, SF, SL, e_nf, reduceCtorEq, implies_true, ↓reduceIte, Nat.reduceEqDiff, Nat.reduceAdd, Nat.reduceMul, Nat.reduceSub, Nat.reduceLeDiff, Nat.reduceLT, Int.reduceLT, Int.reduceLE, Int.reduceEq, Int.reduceToNat, Int.reduceAdd, Int.reduceSub, Int.reduceNeg, Int.reduceBEq, Int.reduceBNe, Nat.reduceBEq, Int.cast_ofNat_Int, decide_true, decide_false, ne_eq, eq_self_iff_true, beq_eq_false_iff_ne, bne_iff_ne, List.replicate, encLv, userL] <;> simp
  · rintro n ⟨pre, rest, a⟩ ⟨he, rfl, hI⟩
    dsimp only at he hI
    cases rest with
    | nil =>
      obtain rfl : v.users = pre := by simpa using he
      clear he
      have hlt : ¬ (((v.users).length : Int) < ((v.users).length : Int)) := Int.lt_irrefl _
      iterate 30 (all_goals (try (first
        | (with_reducible refine ite_in (fun _ => ?_) (fun _ => ?_))
        | (with_reducible refine ⟨fun _ => ?_, fun _ => ?_⟩)
        | (with_reducible refine And.intro ?_ ?_)
        | (with_reducible intro _)
        | (with_reducible exact is_in _)
        | (simp -implicitDefEqProofs only [SD, SF, SL, e_nf, reduceCtorEq, implies_true, ↓reduceIte, Nat.reduceEqDiff, Nat.reduceAdd, Nat.reduceMul, Nat.reduceSub, Nat.reduceLeDiff, Nat.reduceLT, Int.reduceLT, Int.reduceLE, Int.reduceEq, Int.reduceToNat, Int.reduceAdd, Int.reduceSub, Int.reduceNeg, Int.reduceBEq, Int.reduceBNe, Nat.reduceBEq, Int.cast_ofNat_Int, decide_true, decide_false, ne_eq, eq_self_iff_true, beq_eq_false_iff_ne, bne_iff_ne, List.replicate, encLv, userL, *]))))

    | cons x rest =>
      have hlt := cut_lt he
      have hx := cutD encLU he
      simp only [encLU] at hx
      have hw := wrap_len (n := pre.length) (m := (v.users).length) (cut_lt' he) (by simpa using hl)
      replace he := Hd.mk he
      iterate 30 (all_goals (try (first
        | ((with_reducible refine back_in rest.length [4, 6, 11, 12, 13, 14, 15, 16, 17, 18, 19, 20] [6] (pre ++ [x], rest, a) ?_ ⟨?_, ?_, ?_⟩ ?_)
           · simp
           · exact cut_snoc he.out
           · rfl
           · first | rfl | assumption | (simp_all [userL]; done) | grind [userL]
           · first | (simp -implicitDefEqProofs only [SD, SF, SL, e_nf, reduceCtorEq, implies_true, ↓reduceIte, Nat.reduceEqDiff, Nat.reduceAdd, Nat.reduceMul, Nat.reduceSub, Nat.reduceLeDiff, Nat.reduceLT, Int.reduceLT, Int.reduceLE, Int.reduceEq, Int.reduceToNat, Int.reduceAdd, Int.reduceSub, Int.reduceNeg, Int.reduceBEq, Int.reduceBNe, Nat.reduceBEq, Int.cast_ofNat_Int, decide_true, decide_false, ne_eq, eq_self_iff_true, beq_eq_false_iff_ne, bne_iff_ne, List.replicate, encLv, userL] <;> simp <;> done) | (simp -implicitDefEqProofs only [SD, SF, SL, e_nf, reduceCtorEq, implies_true, ↓reduceIte, Nat.reduceEqDiff, Nat.reduceAdd, Nat.reduceMul, Nat.reduceSub, Nat.reduceLeDiff, Nat.reduceLT, Int.reduceLT, Int.reduceLE, Int.reduceEq, Int.reduceToNat, Int.reduceAdd, Int.reduceSub, Int.reduceNeg, Int.reduceBEq, Int.reduceBNe, Nat.reduceBEq, Int.cast_ofNat_Int, decide_true, decide_false, ne_eq, eq_self_iff_true, beq_eq_false_iff_ne, bne_iff_ne, List.replicate, encLv, userL, *] <;> simp_all <;> done))
        | (with_reducible refine ite_in (fun _ => ?_) (fun _ => ?_))
        | (with_reducible refine ⟨fun _ => ?_, fun _ => ?_⟩)
        | (with_reducible refine And.intro ?_ ?_)
        | (with_reducible intro _)
        | (with_reducible exact is_in _)
        | (simp -implicitDefEqProofs only [SD, SF, SL, e_nf, reduceCtorEq, implies_true, ↓reduceIte, Nat.reduceEqDiff, Nat.reduceAdd, Nat.reduceMul, Nat.reduceSub, Nat.reduceLeDiff, Nat.reduceLT, Int.reduceLT, Int.reduceLE, Int.reduceEq, Int.reduceToNat, Int.reduceAdd, Int.reduceSub, Int.reduceNeg, Int.reduceBEq, Int.reduceBNe, Nat.reduceBEq, Int.cast_ofNat_Int, decide_true, decide_false, ne_eq, eq_self_iff_true, beq_eq_false_iff_ne, bne_iff_ne, List.replicate, encLv, userL, *]))))
def ac56 : AC := (.seq (.ops [⟨(some 2), none, (.box (.t 0))⟩, ⟨(some 4), none, (.mv (.c (.int .i64 0)))⟩]) (.seq (.seq (.ops [⟨(some 5), none, (.mv (.c (.int .i64 0)))⟩]) (.block 0 (.loop (.seq (.seq (.ops [⟨(some 6), none, (.mv (.t 5))⟩, ⟨(some 7), none, (.fld 0 (.t 2))⟩, ⟨(some 8), none, (.ld false 1 (.t 7))⟩, ⟨(some 9), none, (.len (.t 8))⟩, ⟨(some 10), none, (.bin .lss (.t 6) (.t 9))⟩]) (.cond (.t 10) .skip (.exit 0))) (.seq (.block 1 (.seq (.ops [⟨(some 13), none, (.fld 0 (.t 2))⟩, ⟨(some 14), none, (.ld false 1 (.t 13))⟩, ⟨(some 15), none, (.mv (.t 5))⟩, ⟨(some 16), none, (.ix 2 (.t 14) (.t 15))⟩, ⟨(some 17), none, (.fld 0 (.t 16))⟩, ⟨(some 18), none, (.ld false 1 (.t 17))⟩, ⟨(some 19), none, (.mv (.t 1))⟩, ⟨(some 20), none, (.bin .eql (.t 18) (.t 19))⟩]) (.cond (.t 20) (.seq (.ops [⟨(some 21), none, (.fld 0 (.t 2))⟩, ⟨(some 22), none, (.ld false 1 (.t 21))⟩, ⟨(some 23), none, (.mv (.t 5))⟩, ⟨(some 24), none, (.ix 2 (.t 22) (.t 23))⟩, ⟨(some 25), none, (.fld 1 (.t 24))⟩, ⟨(some 26), none, (.ld false 1 (.t 25))⟩, ⟨(some 4), none, (.mv (.t 26))⟩]) .ret) .skip))) (.ops [⟨(some 11), none, (.mv (.t 5))⟩, ⟨(some 12), none, (.bin .add (.t 11) (.c (.int .i64 1)))⟩, ⟨(some 5), none, (.mv (.t 12))⟩])))))) (.seq (.ops [⟨(some 27), none, (.fld 2 (.t 2))⟩, ⟨(some 28), none, (.ld false 1 (.t 27))⟩, ⟨(some 4), none, (.mv (.t 28))⟩]) .ret)))
theorem tr56 : Tryz.f56.body.bind (trCode Tryz.prog) = some (strip ac56) := by kernel_rfl
theorem spec56 (v : Lv) (u : List UInt8) : Spec Tryz.prog 56 [.fz (.agg (encLv v)), .fz (.str u)] (.fz (.int .i64 (userL v.users u v.a2))) := by
  refine spec_at (n := 27) (ars := [(.t 4)]) (ac := ac56) Tryz.func56 (by kernel_rfl) (by kernel_rfl) tr56 (by kernel_rfl) ?_
  unfold ac56
  simp -implicitDefEqProofs only [SD, SF, SL, e_nf, reduceCtorEq, implies_true, ↓reduceIte, Nat.reduceEqDiff, Nat.reduceAdd, Nat.reduceMul, Nat.reduceSub, Nat.reduceLeDiff, Nat.reduceLT, Int.reduceLT, Int.reduceLE, Int.reduceEq, Int.reduceToNat, Int.reduceAdd, Int.reduceSub, Int.reduceNeg, Int.reduceBEq, Int.reduceBNe, Nat.reduceBEq, Int.cast_ofNat_Int, decide_true, decide_false, ne_eq, eq_self_iff_true, beq_eq_false_iff_ne, bne_iff_ne, List.replicate, encLv]
  refine loop_q (X := List LU × List LU × Unit) (fun n x => v.users = x.1 ++ x.2.1 ∧ n = x.2.1.length ∧ (userL v.users u v.a2 = userL x.2.1 u v.a2)) (fun x => [(5, .int .i64 x.1.length)]) (fun _ => []) [4, 6, 7, 8, 9, 10, 11, 12, 13, 14, 15, 16, 17, 18, 19, 20, 21, 22, 23, 24, 25, 26] []  (v.users).length ([], v.users, ()) ⟨rfl, rfl, by first | rfl | assumption | (simp_all [userL]; done) | grind [userL]⟩ ?_ ?_
  · simp -implicitDefEqProofs only [SD, SF, SL, e_nf, reduceCtorEq, implies_true, ↓reduceIte, Nat.reduceEqDiff, Nat.reduceAdd, Nat.reduceMul, Nat.reduceSub, Nat.reduceLeDiff, Nat.reduceLT, Int.reduceLT, Int.reduceLE, Int.reduceEq, Int.reduceToNat, Int.reduceAdd, Int.reduceSub, Int.reduceNeg, Int.reduceBEq, Int.reduceBNe, Nat.reduceBEq, Int.cast_ofNat_Int, decide_true, decide_false, ne_eq, eq_self_iff_true, beq_eq_false_iff_ne, bne_iff_ne, List.replicate, encLv, userL] <;> simp
  · rintro n ⟨pre, rest, a⟩ ⟨he, rfl, hI⟩
    dsimp only at he hI
    cases rest with
    | nil =>
      obtain rfl : v.users = pre := by simpa using he
      clear he
      have hlt : ¬ (((v.users).length : Int) < ((v.users).length : Int)) := Int.lt_irrefl _
      iterate 30 (all_goals (try (first
        | (with_reducible refine ite_in (fun _ => ?_) (fun _ => ?_))
        | (with_reducible refine ⟨fun _ => ?_, fun _ => ?_⟩)
        | (with_reducible refine And.intro ?_ ?_)
        | (with_reducible intro _)
        | (with_reducible exact is_in _)
        | (simp -implicitDefEqProofs only [SD, SF, SL, e_nf, reduceCtorEq, implies_true, ↓reduceIte, Nat.reduceEqDiff, Nat.reduceAdd, Nat.reduceMul, Nat.reduceSub, Nat.reduceLeDiff, Nat.reduceLT, Int.reduceLT, Int.reduceLE, Int.reduceEq, Int.reduceToNat, Int.reduceAdd, Int.reduceSub, Int.reduceNeg, Int.reduceBEq, Int.reduceBNe, Nat.reduceBEq, Int.cast_ofNat_Int, decide_true, decide_false, ne_eq, eq_self_iff_true, beq_eq_false_iff_ne, bne_iff_ne, List.replicate, encLv, userL, *]))))

    | cons x rest =>
      have hlt := cut_lt he
      have hx := cutD encLU he
      simp only [encLU] at hx
      simp -implicitDefEqProofs only [SD, SF, SL, e_nf, reduceCtorEq, implies_true, ↓reduceIte, Nat.reduceEqDiff, Nat.reduceAdd, Nat.reduceMul, Nat.reduceSub, Nat.reduceLeDiff, Nat.reduceLT, Int.reduceLT, Int.reduceLE, Int.reduceEq, Int.reduceToNat, Int.reduceAdd, Int.reduceSub, Int.reduceNeg, Int.reduceBEq, Int.reduceBNe, Nat.reduceBEq, Int.cast_ofNat_Int, decide_true, decide_false, ne_eq, eq_self_iff_true, beq_eq_false_iff_ne, bne_iff_ne, List.replicate, encLv, userL, hlt]
      intro hl
      have hw := wrap_len (n := pre.length) (m := (v.users).length) (cut_lt' he) (by simpa using hl)
      replace he := Hd.mk he
      iterate 30 (all_goals (try (first
        | ((with_reducible refine back_in rest.length [4, 6, 7, 8, 9, 10, 11, 12, 13, 14, 15, 16, 17, 18, 19, 20, 21, 22, 23, 24, 25, 26] [] (pre ++ [x], rest, a) ?_ ⟨?_, ?_, ?_⟩ ?_)
           · simp
           · exact cut_snoc he.out
           · rfl
           · first | rfl | assumption | (simp_all [userL]; done) | grind [userL]
           · first | (simp -implicitDefEqProofs only [SD, SF, SL, e_nf, reduceCtorEq, implies_true, ↓reduceIte, Nat.reduceEqDiff, Nat.reduceAdd, Nat.reduceMul, Nat.reduceSub, Nat.reduceLeDiff, Nat.reduceLT, Int.reduceLT, Int.reduceLE, Int.reduceEq, Int.reduceToNat, Int.reduceAdd, Int.reduceSub, Int.reduceNeg, Int.reduceBEq, Int.reduceBNe, Nat.reduceBEq, Int.cast_ofNat_Int, decide_true, decide_false, ne_eq, eq_self_iff_true, beq_eq_false_iff_ne, bne_iff_ne, List.replicate, encLv, userL] <;> simp <;> done) | (simp -implicitDefEqProofs only [SD, SF, SL, e_nf, reduceCtorEq, implies_true, ↓reduceIte, Nat.reduceEqDiff, Nat.reduceAdd, Nat.reduceMul, Nat.reduceSub, Nat.reduceLeDiff, Nat.reduceLT, Int.reduceLT, Int.reduceLE, Int.reduceEq, Int.reduceToNat, Int.reduceAdd, Int.reduceSub, Int.reduceNeg, Int.reduceBEq, Int.reduceBNe, Nat.reduceBEq, Int.cast_ofNat_Int, decide_true, decide_false, ne_eq, eq_self_iff_true, beq_eq_false_iff_ne, bne_iff_ne, List.replicate, encLv, userL, *] <;> simp_all <;> done))
        | (with_reducible refine ite_in (fun _ => ?_) (fun _ => ?_))
        | (with_reducible refine ⟨fun _ => ?_, fun _ => ?_⟩)
        | (with_reducible refine And.intro ?_ ?_)
        | (with_reducible intro _)
        | (with_reducible exact is_in _)
        | (simp -implicitDefEqProofs only [SD, SF, SL, e_nf, reduceCtorEq, implies_true, ↓reduceIte, Nat.reduceEqDiff, Nat.reduceAdd, Nat.reduceMul, Nat.reduceSub, Nat.reduceLeDiff, Nat.reduceLT, Int.reduceLT, Int.reduceLE, Int.reduceEq, Int.reduceToNat, Int.reduceAdd, Int.reduceSub, Int.reduceNeg, Int.reduceBEq, Int.reduceBNe, Nat.reduceBEq, Int.cast_ofNat_Int, decide_true, decide_false, ne_eq, eq_self_iff_true, beq_eq_false_iff_ne, bne_iff_ne, List.replicate, encLv, userL, *]))))
def ac47 : AC := (.seq (.ops [⟨(some 2), none, (.mv (.c (.bool false)))⟩]) (.seq (.ops [⟨(some 3), none, (.mv (.t 0))⟩, ⟨(some 4), none, (.bin .geq (.t 3) (.c (.int .i64 1)))⟩, ⟨(some 5), none, (.mv (.t 4))⟩, ⟨(some 6), (some (5, true)), (.mv (.t 0))⟩, ⟨(some 7), (some (5, true)), (.bin .leq (.t 6) (.c (.int .i64 10)))⟩, ⟨(some 8), none, (.pick (.t 5) (.t 7) (.c (.bool false)))⟩, ⟨(some 2), none, (.mv (.t 8))⟩]) .ret))
theorem tr47 : Tryz.f47.body.bind (trCode Tryz.prog) = some (strip ac47) := by kernel_rfl
theorem spec47 (k : Int) : Spec Tryz.prog 47 [.fz (.int .i64 k)] (.fz (.bool (stateB k))) := by
  refine spec_at (n := 8) (ars := [(.t 2)]) (ac := ac47) Tryz.func47 (by kernel_rfl) (by kernel_rfl) tr47 (by kernel_rfl) ?_
  unfold ac47
  iterate 30 (all_goals (try (first
    | (with_reducible refine ite_in (fun _ => ?_) (fun _ => ?_))
    | (with_reducible refine ⟨fun _ => ?_, fun _ => ?_⟩)
    | (with_reducible refine And.intro ?_ ?_)
    | (with_reducible intro _)
    | (with_reducible exact is_in _)
    | (simp -implicitDefEqProofs only [SD, SF, SL, e_nf, reduceCtorEq, implies_true, ↓reduceIte, Nat.reduceEqDiff, Nat.reduceAdd, Nat.reduceMul, Nat.reduceSub, Nat.reduceLeDiff, Nat.reduceLT, Int.reduceLT, Int.reduceLE, Int.reduceEq, Int.reduceToNat, Int.reduceAdd, Int.reduceSub, Int.reduceNeg, Int.reduceBEq, Int.reduceBNe, Nat.reduceBEq, Int.cast_ofNat_Int, decide_true, decide_false, ne_eq, eq_self_iff_true, beq_eq_false_iff_ne, bne_iff_ne, List.replicate, *]))))
  all_goals (simp_all [stateB] <;> omega)
def ac18 : AC := (.seq (.ops [⟨(some 2), none, (.mv (.c (.bool false)))⟩]) (.seq (.ops [⟨(some 3), none, (.mv (.t 0))⟩, ⟨(some 4), none, (.bin .geq (.t 3) (.c (.int .i64 1)))⟩, ⟨(some 5), none, (.mv (.t 4))⟩, ⟨(some 6), (some (5, true)), (.mv (.t 0))⟩, ⟨(some 7), (some (5, true)), (.bin .leq (.t 6) (.c (.int .i64 10)))⟩, ⟨(some 8), none, (.pick (.t 5) (.t 7) (.c (.bool false)))⟩, ⟨(some 2), none, (.mv (.t 8))⟩]) .ret))
theorem tr18 : Tryz.f18.body.bind (trCode Tryz.prog) = some (strip ac18) := by kernel_rfl
theorem spec18 (k : Int) : Spec Tryz.prog 18 [.fz (.int .i64 k)] (.fz (.bool (stateB k))) := by
  refine spec_at (n := 8) (ars := [(.t 2)]) (ac := ac18) Tryz.func18 (by kernel_rfl) (by kernel_rfl) tr18 (by kernel_rfl) ?_
  unfold ac18
  iterate 30 (all_goals (try (first
    | (with_reducible refine ite_in (fun _ => ?_) (fun _ => ?_))
    | (with_reducible refine ⟨fun _ => ?_, fun _ => ?_⟩)
    | (with_reducible refine And.intro ?_ ?_)
    | (with_reducible intro _)
    | (with_reducible exact is_in _)
    | (simp -implicitDefEqProofs only [SD, SF, SL, e_nf, reduceCtorEq, implies_true, ↓reduceIte, Nat.reduceEqDiff, Nat.reduceAdd, Nat.reduceMul, Nat.reduceSub, Nat.reduceLeDiff, Nat.reduceLT, Int.reduceLT, Int.reduceLE, Int.reduceEq, Int.reduceToNat, Int.reduceAdd, Int.reduceSub, Int.reduceNeg, Int.reduceBEq, Int.reduceBNe, Nat.reduceBEq, Int.cast_ofNat_Int, decide_true, decide_false, ne_eq, eq_self_iff_true, beq_eq_false_iff_ne, bne_iff_ne, List.replicate, *]))))
  all_goals (simp_all [stateB] <;> omega)
def ac92 : AC := (.seq (.ops [⟨(some 2), none, (.box (.t 0))⟩, ⟨(some 4), none, (.mv (.c (.int .i64 0)))⟩]) (.seq (.seq (.ops [⟨(some 7), none, (.fld 1 (.t 2))⟩, ⟨(some 8), none, (.ld false 1 (.t 7))⟩, ⟨(some 9), none, (.len (.t 8))⟩, ⟨(some 10), none, (.mv (.c (.int .i64 0)))⟩]) (.block 0 (.loop (.seq (.ops [⟨(some 11), none, (.bin .lss (.t 10) (.t 9))⟩]) (.seq (.cond (.t 11) .skip (.exit 0)) (.seq (.block 1 (.seq (.ops [⟨(some 12), none, (.ix 2 (.t 8) (.t 10))⟩, ⟨(some 13), none, (.ld true 2 (.t 12))⟩, ⟨(some 6), none, (.alloc [(.int .i64 0), (.int .i64 0)])⟩, ⟨none, none, (.sto 2 (.t 6) (.t 13))⟩]) (.seq (.ops [⟨(some 14), none, (.fld 0 (.t 6))⟩, ⟨(some 15), none, (.ld false 1 (.t 14))⟩, ⟨(some 16), none, (.mv (.t 1))⟩, ⟨(some 17), none, (.bin .eql (.t 15) (.t 16))⟩]) (.cond (.t 17) (.seq (.ops [⟨(some 18), none, (.fld 1 (.t 6))⟩, ⟨(some 19), none, (.ld false 1 (.t 18))⟩, ⟨(some 4), none, (.mv (.t 19))⟩]) .ret) .skip)))) (.ops [⟨(some 20), none, (.bin .add (.t 10) (.c (.int .i64 1)))⟩, ⟨(some 10), none, (.mv (.t 20))⟩]))))))) (.seq (.seq (.ops [⟨(some 21), none, (.mv (.t 1))⟩, ⟨(some 22), none, (.call false 47 [(.t 21)])⟩]) (.cond (.t 22) (.seq (.ops [⟨(some 23), none, (.fld 4 (.t 2))⟩, ⟨(some 24), none, (.ld false 1 (.t 23))⟩, ⟨(some 4), none, (.mv (.t 24))⟩]) .ret) .skip)) (.seq (.ops [⟨(some 25), none, (.fld 3 (.t 2))⟩, ⟨(some 26), none, (.ld false 1 (.t 25))⟩, ⟨(some 4), none, (.mv (.t 26))⟩]) .ret))))
theorem tr92 : Tryz.f92.body.bind (trCode Tryz.prog) = some (strip ac92) := by kernel_rfl
theorem spec92 (v : Lv) (k : Int) : Spec Tryz.prog 92 [.fz (.agg (encLv v)), .fz (.int .i64 k)] (.fz (.int .i64 (needs v k))) := by
  refine spec_at (n := 25) (ars := [(.t 4)]) (ac := ac92) Tryz.func92 (by kernel_rfl) (by kernel_rfl) tr92 (by kernel_rfl) ?_
  unfold ac92
  simp -implicitDefEqProofs only [SD, SF, SL, e_nf, reduceCtorEq, implies_true, ↓reduceIte, Nat.reduceEqDiff, Nat.reduceAdd, Nat.reduceMul, Nat.reduceSub, Nat.reduceLeDiff, Nat.reduceLT, Int.reduceLT, Int.reduceLE, Int.reduceEq, Int.reduceToNat, Int.reduceAdd, Int.reduceSub, Int.reduceNeg, Int.reduceBEq, Int.reduceBNe, Nat.reduceBEq, Int.cast_ofNat_Int, decide_true, decide_false, ne_eq, eq_self_iff_true, beq_eq_false_iff_ne, bne_iff_ne, List.replicate, encLv]
  intro hl
  refine loop_q (X := List LK × List LK × Unit) (fun n x => v.kinds = x.1 ++ x.2.1 ∧ n = x.2.1.length ∧ (needsL v.kinds k (if stateB k then v.a4 else v.a3) = needsL x.2.1 k (if stateB k then v.a4 else v.a3))) (fun x => [(10, .int .i64 x.1.length)]) (fun _ => []) [4, 6, 11, 12, 13, 14, 15, 16, 17, 18, 19, 20] [6]  (v.kinds).length ([], v.kinds, ()) ⟨rfl, rfl, by first | rfl | assumption | (simp_all [needsL, needs]; done) | grind [needsL, needs]⟩ ?_ ?_
  · simp -implicitDefEqProofs only [SD, SF, SL, e_nf, reduceCtorEq, implies_true, ↓reduceIte, Nat.reduceEqDiff, Nat.reduceAdd, Nat.reduceMul, Nat.reduceSub, Nat.reduceLeDiff, Nat.reduceLT, Int.reduceLT, Int.reduceLE, Int.reduceEq, Int.reduceToNat, Int.reduceAdd, Int.reduceSub, Int.reduceNeg, Int.reduceBEq, Int.reduceBNe, Nat.reduceBEq, Int.cast_ofNat_Int, decide_true, decide_false, ne_eq, eq_self_iff_true, beq_eq_false_iff_ne, bne_iff_ne, List.replicate, encLv, needs, needsL] <;> simp
  · rintro n ⟨pre, rest, a⟩ ⟨he, rfl, hI⟩
    dsimp only at he hI
    cases rest with
    | nil =>
      obtain rfl : v.kinds = pre := by simpa using he
      clear he
      have hlt : ¬ (((v.kinds).length : Int) < ((v.kinds).length : Int)) := Int.lt_irrefl _
      iterate 30 (all_goals (try (first
        | ((with_reducible refine of_kSpec ?_); refine call_fz (spec47 k) rfl ?_)
        | (with_reducible refine ite_in (fun _ => ?_) (fun _ => ?_))
        | (with_reducible refine ⟨fun _ => ?_, fun _ => ?_⟩)
        | (with_reducible refine And.intro ?_ ?_)
        | (with_reducible intro _)
        | (with_reducible exact is_in _)
        | (simp -implicitDefEqProofs only [SD, SF, SL, e_nf, reduceCtorEq, implies_true, ↓reduceIte, Nat.reduceEqDiff, Nat.reduceAdd, Nat.reduceMul, Nat.reduceSub, Nat.reduceLeDiff, Nat.reduceLT, Int.reduceLT, Int.reduceLE, Int.reduceEq, Int.reduceToNat, Int.reduceAdd, Int.reduceSub, Int.reduceNeg, Int.reduceBEq, Int.reduceBNe, Nat.reduceBEq, Int.cast_ofNat_Int, decide_true, decide_false, ne_eq, eq_self_iff_true, beq_eq_false_iff_ne, bne_iff_ne, List.replicate, encLv, needs, needsL, *]))))
      all_goals (simp_all [needsL, needs])

    | cons x rest =>
      have hlt := cut_lt he
      have hx := cutD encLK he
      simp only [encLK] at hx
      have hw := wrap_len (n := pre.length) (m := (v.kinds).length) (cut_lt' he) (by simpa using hl)
      replace he := Hd.mk he
      iterate 30 (all_goals (try (first
        | ((with_reducible refine back_in rest.length [4, 6, 11, 12, 13, 14, 15, 16, 17, 18, 19, 20] [6] (pre ++ [x], rest, a) ?_ ⟨?_, ?_, ?_⟩ ?_)
           · simp
           · exact cut_snoc he.out
           · rfl
           · first | rfl | assumption | (simp_all [needsL, needs]; done) | grind [needsL, needs]
           · first | (simp -implicitDefEqProofs only [SD, SF, SL, e_nf, reduceCtorEq, implies_true, ↓reduceIte, Nat.reduceEqDiff, Nat.reduceAdd, Nat.reduceMul, Nat.reduceSub, Nat.reduceLeDiff, Nat.reduceLT, Int.reduceLT, Int.reduceLE, Int.reduceEq, Int.reduceToNat, Int.reduceAdd, Int.reduceSub, Int.reduceNeg, Int.reduceBEq, Int.reduceBNe, Nat.reduceBEq, Int.cast_ofNat_Int, decide_true, decide_false, ne_eq, eq_self_iff_true, beq_eq_false_iff_ne, bne_iff_ne, List.replicate, encLv, needs, needsL] <;> simp <;> done) | (simp -implicitDefEqProofs only [SD, SF, SL, e_nf, reduceCtorEq, implies_true, ↓reduceIte, Nat.reduceEqDiff, Nat.reduceAdd, Nat.reduceMul, Nat.reduceSub, Nat.reduceLeDiff, Nat.reduceLT, Int.reduceLT, Int.reduceLE, Int.reduceEq, Int.reduceToNat, Int.reduceAdd, Int.reduceSub, Int.reduceNeg, Int.reduceBEq, Int.reduceBNe, Nat.reduceBEq, Int.cast_ofNat_Int, decide_true, decide_false, ne_eq, eq_self_iff_true, beq_eq_false_iff_ne, bne_iff_ne, List.replicate, encLv, needs, needsL, *] <;> simp_all <;> done))
        | ((with_reducible refine of_kSpec ?_); refine call_fz (spec47 k) rfl ?_)
        | (with_reducible refine ite_in (fun _ => ?_) (fun _ => ?_))
        | (with_reducible refine ⟨fun _ => ?_, fun _ => ?_⟩)
        | (with_reducible refine And.intro ?_ ?_)
        | (with_reducible intro _)
        | (with_reducible exact is_in _)
        | (simp -implicitDefEqProofs only [SD, SF, SL, e_nf, reduceCtorEq, implies_true, ↓reduceIte, Nat.reduceEqDiff, Nat.reduceAdd, Nat.reduceMul, Nat.reduceSub, Nat.reduceLeDiff, Nat.reduceLT, Int.reduceLT, Int.reduceLE, Int.reduceEq, Int.reduceToNat, Int.reduceAdd, Int.reduceSub, Int.reduceNeg, Int.reduceBEq, Int.reduceBNe, Nat.reduceBEq, Int.cast_ofNat_Int, decide_true, decide_false, ne_eq, eq_self_iff_true, beq_eq_false_iff_ne, bne_iff_ne, List.replicate, encLv, needs, needsL, *]))))
      all_goals (simp_all [needsL, needs])
def ac57 : AC := (.seq (.ops [⟨(some 2), none, (.box (.t 0))⟩, ⟨(some 4), none, (.mv (.c (.int .i64 0)))⟩]) (.seq (.seq (.ops [⟨(some 5), none, (.mv (.c (.int .i64 0)))⟩]) (.block 0 (.loop (.seq (.seq (.ops [⟨(some 6), none, (.mv (.t 5))⟩, ⟨(some 7), none, (.fld 1 (.t 2))⟩, ⟨(some 8), none, (.ld false 1 (.t 7))⟩, ⟨(some 9), none, (.len (.t 8))⟩, ⟨(some 10), none, (.bin .lss (.t 6) (.t 9))⟩]) (.cond (.t 10) .skip (.exit 0))) (.seq (.block 1 (.seq (.ops [⟨(some 13), none, (.fld 1 (.t 2))⟩, ⟨(some 14), none, (.ld false 1 (.t 13))⟩, ⟨(some 15), none, (.mv (.t 5))⟩, ⟨(some 16), none, (.ix 2 (.t 14) (.t 15))⟩, ⟨(some 17), none, (.fld 0 (.t 16))⟩, ⟨(some 18), none, (.ld false 1 (.t 17))⟩, ⟨(some 19), none, (.mv (.t 1))⟩, ⟨(some 20), none, (.bin .eql (.t 18) (.t 19))⟩]) (.cond (.t 20) (.seq (.ops [⟨(some 21), none, (.fld 1 (.t 2))⟩, ⟨(some 22), none, (.ld false 1 (.t 21))⟩, ⟨(some 23), none, (.mv (.t 5))⟩, ⟨(some 24), none, (.ix 2 (.t 22) (.t 23))⟩, ⟨(some 25), none, (.fld 1 (.t 24))⟩, ⟨(some 26), none, (.ld false 1 (.t 25))⟩, ⟨(some 4), none, (.mv (.t 26))⟩]) .ret) .skip))) (.ops [⟨(some 11), none, (.mv (.t 5))⟩, ⟨(some 12), none, (.bin .add (.t 11) (.c (.int .i64 1)))⟩, ⟨(some 5), none, (.mv (.t 12))⟩])))))) (.seq (.seq (.ops [⟨(some 27), none, (.mv (.t 1))⟩, ⟨(some 28), none, (.call false 18 [(.t 27)])⟩]) (.cond (.t 28) (.seq (.ops [⟨(some 29), none, (.fld 4 (.t 2))⟩, ⟨(some 30), none, (.ld false 1 (.t 29))⟩, ⟨(some 4), none, (.mv (.t 30))⟩]) .ret) .skip)) (.seq (.ops [⟨(some 31), none, (.fld 3 (.t 2))⟩, ⟨(some 32), none, (.ld false 1 (.t 31))⟩, ⟨(some 4), none, (.mv (.t 32))⟩]) .ret))))
theorem tr57 : Tryz.f57.body.bind (trCode Tryz.prog) = some (strip ac57) := by kernel_rfl
theorem spec57 (v : Lv) (k : Int) : Spec Tryz.prog 57 [.fz (.agg (encLv v)), .fz (.int .i64 k)] (.fz (.int .i64 (needs v k))) := by
  refine spec_at (n := 31) (ars := [(.t 4)]) (ac := ac57) Tryz.func57 (by kernel_rfl) (by kernel_rfl) tr57 (by kernel_rfl) ?_
  unfold ac57
  simp -implicitDefEqProofs only [SD, SF, SL, e_nf, reduceCtorEq, implies_true, ↓reduceIte, Nat.reduceEqDiff, Nat.reduceAdd, Nat.reduceMul, Nat.reduceSub, Nat.reduceLeDiff, Nat.reduceLT, Int.reduceLT, Int.reduceLE, Int.reduceEq, Int.reduceToNat, Int.reduceAdd, Int.reduceSub, Int.reduceNeg, Int.reduceBEq, Int.reduceBNe, Nat.reduceBEq, Int.cast_ofNat_Int, decide_true, decide_false, ne_eq, eq_self_iff_true, beq_eq_false_iff_ne, bne_iff_ne, List.replicate, encLv]
  refine loop_q (X := List LK × List LK × Unit) (fun n x => v.kinds = x.1 ++ x.2.1 ∧ n = x.2.1.length ∧ (needsL v.kinds k (if stateB k then v.a4 else v.a3) = needsL x.2.1 k (if stateB k then v.a4 else v.a3))) (fun x => [(5, .int .i64 x.1.length)]) (fun _ => []) [4, 6, 7, 8, 9, 10, 11, 12, 13, 14, 15, 16, 17, 18, 19, 20, 21, 22, 23, 24, 25, 26] []  (v.kinds).length ([], v.kinds, ()) ⟨rfl, rfl, by first | rfl | assumption | (simp_all [needsL, needs]; done) | grind [needsL, needs]⟩ ?_ ?_
  · simp -implicitDefEqProofs only [SD, SF, SL, e_nf, reduceCtorEq, implies_true, ↓reduceIte, Nat.reduceEqDiff, Nat.reduceAdd, Nat.reduceMul, Nat.reduceSub, Nat.reduceLeDiff, Nat.reduceLT, Int.reduceLT, Int.reduceLE, Int.reduceEq, Int.reduceToNat, Int.reduceAdd, Int.reduceSub, Int.reduceNeg, Int.reduceBEq, Int.reduceBNe, Nat.reduceBEq, Int.cast_ofNat_Int, decide_true, decide_false, ne_eq, eq_self_iff_true, beq_eq_false_iff_ne, bne_iff_ne, List.replicate, encLv, needs, needsL] <;> simp
  · rintro n ⟨pre, rest, a⟩ ⟨he, rfl, hI⟩
    dsimp only at he hI
    cases rest with
    | nil =>
      obtain rfl : v.kinds = pre := by simpa using he
      clear he
      have hlt : ¬ (((v.kinds).length : Int) < ((v.kinds).length : Int)) := Int.lt_irrefl _
      iterate 30 (all_goals (try (first
        | ((with_reducible refine of_kSpec ?_); refine call_fz (spec18 k) rfl ?_)
        | (with_reducible refine ite_in (fun _ => ?_) (fun _ => ?_))
        | (with_reducible refine ⟨fun _ => ?_, fun _ => ?_⟩)
        | (with_reducible refine And.intro ?_ ?_)
        | (with_reducible intro _)
        | (with_reducible exact is_in _)
        | (simp -implicitDefEqProofs only [SD, SF, SL, e_nf, reduceCtorEq, implies_true, ↓reduceIte, Nat.reduceEqDiff, Nat.reduceAdd, Nat.reduceMul, Nat.reduceSub, Nat.reduceLeDiff, Nat.reduceLT, Int.reduceLT, Int.reduceLE, Int.reduceEq, Int.reduceToNat, Int.reduceAdd, Int.reduceSub, Int.reduceNeg, Int.reduceBEq, Int.reduceBNe, Nat.reduceBEq, Int.cast_ofNat_Int, decide_true, decide_false, ne_eq, eq_self_iff_true, beq_eq_false_iff_ne, bne_iff_ne, List.replicate, encLv, needs, needsL, *]))))
      all_goals (simp_all [needsL, needs])

    | cons x rest =>
      have hlt := cut_lt he
      have hx := cutD encLK he
      simp only [encLK] at hx
      simp -implicitDefEqProofs only [SD, SF, SL, e_nf, reduceCtorEq, implies_true, ↓reduceIte, Nat.reduceEqDiff, Nat.reduceAdd, Nat.reduceMul, Nat.reduceSub, Nat.reduceLeDiff, Nat.reduceLT, Int.reduceLT, Int.reduceLE, Int.reduceEq, Int.reduceToNat, Int.reduceAdd, Int.reduceSub, Int.reduceNeg, Int.reduceBEq, Int.reduceBNe, Nat.reduceBEq, Int.cast_ofNat_Int, decide_true, decide_false, ne_eq, eq_self_iff_true, beq_eq_false_iff_ne, bne_iff_ne, List.replicate, encLv, needs, needsL, hlt]
      intro hl
      have hw := wrap_len (n := pre.length) (m := (v.kinds).length) (cut_lt' he) (by simpa using hl)
      replace he := Hd.mk he
      iterate 30 (all_goals (try (first
        | ((with_reducible refine back_in rest.length [4, 6, 7, 8, 9, 10, 11, 12, 13, 14, 15, 16, 17, 18, 19, 20, 21, 22, 23, 24, 25, 26] [] (pre ++ [x], rest, a) ?_ ⟨?_, ?_, ?_⟩ ?_)
           · simp
           · exact cut_snoc he.out
           · rfl
           · first | rfl | assumption | (simp_all [needsL, needs]; done) | grind [needsL, needs]
           · first | (simp -implicitDefEqProofs only [SD, SF, SL, e_nf, reduceCtorEq, implies_true, ↓reduceIte, Nat.reduceEqDiff, Nat.reduceAdd, Nat.reduceMul, Nat.reduceSub, Nat.reduceLeDiff, Nat.reduceLT, Int.reduceLT, Int.reduceLE, Int.reduceEq, Int.reduceToNat, Int.reduceAdd, Int.reduceSub, Int.reduceNeg, Int.reduceBEq, Int.reduceBNe, Nat.reduceBEq, Int.cast_ofNat_Int, decide_true, decide_false, ne_eq, eq_self_iff_true, beq_eq_false_iff_ne, bne_iff_ne, List.replicate, encLv, needs, needsL] <;> simp <;> done) | (simp -implicitDefEqProofs only [SD, SF, SL, e_nf, reduceCtorEq, implies_true, ↓reduceIte, Nat.reduceEqDiff, Nat.reduceAdd, Nat.reduceMul, Nat.reduceSub, Nat.reduceLeDiff, Nat.reduceLT, Int.reduceLT, Int.reduceLE, Int.reduceEq, Int.reduceToNat, Int.reduceAdd, Int.reduceSub, Int.reduceNeg, Int.reduceBEq, Int.reduceBNe, Nat.reduceBEq, Int.cast_ofNat_Int, decide_true, decide_false, ne_eq, eq_self_iff_true, beq_eq_false_iff_ne, bne_iff_ne, List.replicate, encLv, needs, needsL, *] <;> simp_all <;> done))
        | ((with_reducible refine of_kSpec ?_); refine call_fz (spec18 k) rfl ?_)
        | (with_reducible refine ite_in (fun _ => ?_) (fun _ => ?_))
        | (with_reducible refine ⟨fun _ => ?_, fun _ => ?_⟩)
        | (with_reducible refine And.intro ?_ ?_)
        | (with_reducible intro _)
        | (with_reducible exact is_in _)
        | (simp -implicitDefEqProofs only [SD, SF, SL, e_nf, reduceCtorEq, implies_true, ↓reduceIte, Nat.reduceEqDiff, Nat.reduceAdd, Nat.reduceMul, Nat.reduceSub, Nat.reduceLeDiff, Nat.reduceLT, Int.reduceLT, Int.reduceLE, Int.reduceEq, Int.reduceToNat, Int.reduceAdd, Int.reduceSub, Int.reduceNeg, Int.reduceBEq, Int.reduceBNe, Nat.reduceBEq, Int.cast_ofNat_Int, decide_true, decide_false, ne_eq, eq_self_iff_true, beq_eq_false_iff_ne, bne_iff_ne, List.replicate, encLv, needs, needsL, *]))))
      all_goals (simp_all [needsL, needs])
def ac81 : AC := (.seq (.ops [⟨(some 1), none, (.box (.t 0))⟩, ⟨(some 2), none, (.mv (.c .e0))⟩]) (.seq (.ops [⟨(some 3), none, (.fld 2 (.t 1))⟩, ⟨(some 4), none, (.ld false 1 (.t 3))⟩, ⟨(some 5), none, (.fld 3 (.t 1))⟩, ⟨(some 6), none, (.ld false 1 (.t 5))⟩, ⟨(some 7), none, (.fld 4 (.t 1))⟩, ⟨(some 8), none, (.ld false 1 (.t 7))⟩, ⟨(some 9), none, (.fld 5 (.t 1))⟩, ⟨(some 10), none, (.ld false 1 (.t 9))⟩, ⟨(some 11), none, (.fld 6 (.t 1))⟩, ⟨(some 12), none, (.ld false 1 (.t 11))⟩, ⟨(some 13), none, (.fld 7 (.t 1))⟩, ⟨(some 14), none, (.ld false 1 (.t 13))⟩, ⟨(some 15), none, (.fld 8 (.t 1))⟩, ⟨(some 16), none, (.ld false 1 (.t 15))⟩, ⟨(some 17), none, (.buildSl 3 1 7 [(.int .i64 0)] [(0, (.t 4)), (1, (.t 6)), (2, (.t 8)), (3, (.t 10)), (4, (.t 12)), (5, (.t 14)), (6, (.t 16))])⟩, ⟨(some 2), none, (.mv (.t 17))⟩]) .ret))
theorem tr81 : Tryz.f81.body.bind (trCode Tryz.prog) = some (strip ac81) := by kernel_rfl
theorem spec81 (v : Lv) : Spec Tryz.prog 81 [.fz (.agg (encLv v))] (.fz (.sl 1 ((nums v).map fun n => [.int .i64 n]))) := by
  refine spec_at (n := 17) (ars := [(.t 2)]) (ac := ac81) Tryz.func81 (by kernel_rfl) (by kernel_rfl) tr81 (by kernel_rfl) ?_
  unfold ac81
  iterate 30 (all_goals (try (first
    | (with_reducible refine ite_in (fun _ => ?_) (fun _ => ?_))
    | (with_reducible refine ⟨fun _ => ?_, fun _ => ?_⟩)
    | (with_reducible refine And.intro ?_ ?_)
    | (with_reducible intro _)
    | (with_reducible exact is_in _)
    | (simp -implicitDefEqProofs only [SD, SF, SL, e_nf, reduceCtorEq, implies_true, ↓reduceIte, Nat.reduceEqDiff, Nat.reduceAdd, Nat.reduceMul, Nat.reduceSub, Nat.reduceLeDiff, Nat.reduceLT, Int.reduceLT, Int.reduceLE, Int.reduceEq, Int.reduceToNat, Int.reduceAdd, Int.reduceSub, Int.reduceNeg, Int.reduceBEq, Int.reduceBNe, Nat.reduceBEq, Int.cast_ofNat_Int, decide_true, decide_false, ne_eq, eq_self_iff_true, beq_eq_false_iff_ne, bne_iff_ne, List.replicate, encLv, nums, *]))))
def ac107 : AC := (.seq (.ops [⟨(some 1), none, (.box (.t 0))⟩, ⟨(some 2), none, (.alloc [(.int .i64 0), (.int .i64 0), (.int .i64 0), (.int .i64 0), (.int .i64 0), (.int .i64 0), (.int .i64 0)])⟩]) (.seq (.ops [⟨(some 3), none, (.fld 2 (.t 1))⟩, ⟨(some 4), none, (.ld false 1 (.t 3))⟩, ⟨(some 5), none, (.fld 3 (.t 1))⟩, ⟨(some 6), none, (.ld false 1 (.t 5))⟩, ⟨(some 7), none, (.fld 4 (.t 1))⟩, ⟨(some 8), none, (.ld false 1 (.t 7))⟩, ⟨(some 9), none, (.fld 5 (.t 1))⟩, ⟨(some 10), none, (.ld false 1 (.t 9))⟩, ⟨(some 11), none, (.fld 6 (.t 1))⟩, ⟨(some 12), none, (.ld false 1 (.t 11))⟩, ⟨(some 13), none, (.fld 7 (.t 1))⟩, ⟨(some 14), none, (.ld false 1 (.t 13))⟩, ⟨(some 15), none, (.fld 8 (.t 1))⟩, ⟨(some 16), none, (.ld false 1 (.t 15))⟩, ⟨(some 17), none, (.build [(.int .i64 0), (.int .i64 0), (.int .i64 0), (.int .i64 0), (.int .i64 0), (.int .i64 0), (.int .i64 0)] [(0, (1, (.t 4))), (1, (1, (.t 6))), (2, (1, (.t 8))), (3, (1, (.t 10))), (4, (1, (.t 12))), (5, (1, (.t 14))), (6, (1, (.t 16)))])⟩, ⟨none, none, (.sto 7 (.t 2) (.t 17))⟩]) .ret))
theorem tr107 : Tryz.f107.body.bind (trCode Tryz.prog) = some (strip ac107) := by kernel_rfl
theorem spec107 (v : Lv) : Spec Tryz.prog 107 [.fz (.agg (encLv v))] (.fz (.agg ((nums v).map (.int .i64)))) := by
  refine spec_at (n := 17) (ars := [(.c true 7 2)]) (ac := ac107) Tryz.func107 (by kernel_rfl) (by kernel_rfl) tr107 (by kernel_rfl) ?_
  unfold ac107
  iterate 30 (all_goals (try (first
    | (with_reducible refine ite_in (fun _ => ?_) (fun _ => ?_))
    | (with_reducible refine ⟨fun _ => ?_, fun _ => ?_⟩)
    | (with_reducible refine And.intro ?_ ?_)
    | (with_reducible intro _)
    | (with_reducible exact is_in _)
    | (simp -implicitDefEqProofs only [SD, SF, SL, e_nf, reduceCtorEq, implies_true, ↓reduceIte, Nat.reduceEqDiff, Nat.reduceAdd, Nat.reduceMul, Nat.reduceSub, Nat.reduceLeDiff, Nat.reduceLT, Int.reduceLT, Int.reduceLE, Int.reduceEq, Int.reduceToNat, Int.reduceAdd, Int.reduceSub, Int.reduceNeg, Int.reduceBEq, Int.reduceBNe, Nat.reduceBEq, Int.cast_ofNat_Int, decide_true, decide_false, ne_eq, eq_self_iff_true, beq_eq_false_iff_ne, bne_iff_ne, List.replicate, encLv, nums, *]))))
def ac106 : AC := (.seq (.ops [⟨(some 5), none, (.mv (.c (.bool false)))⟩]) (.seq (.ops [⟨(some 6), none, (.mv (.t 0))⟩, ⟨(some 7), none, (.mv (.t 1))⟩, ⟨(some 8), none, (.bin .neq (.t 6) (.t 7))⟩, ⟨(some 9), none, (.mv (.t 8))⟩, ⟨(some 10), (some (9, true)), (.mv (.t 0))⟩, ⟨(some 11), (some (9, true)), (.ld false 1 (.t 2))⟩, ⟨(some 12), (some (9, true)), (.bin .gtr (.t 10) (.t 11))⟩, ⟨(some 13), (some (9, true)), (.mv (.t 12))⟩, ⟨(some 14), (some (13, false)), (.mv (.t 1))⟩, ⟨(some 15), (some (13, false)), (.ld false 1 (.t 2))⟩, ⟨(some 16), (some (13, false)), (.bin .gtr (.t 14) (.t 15))⟩, ⟨(some 17), (some (9, true)), (.pick (.t 13) (.c (.bool true)) (.t 16))⟩, ⟨(some 18), none, (.pick (.t 9) (.t 17) (.c (.bool false)))⟩, ⟨(some 5), none, (.mv (.t 18))⟩]) .ret))
theorem tr106 : Tryz.f106.body.bind (trCode Tryz.prog) = some (strip ac106) := by kernel_rfl
theorem spec106 (was iz own : Int) : Spec Tryz.prog 106 [.fz (.int .i64 was), .fz (.int .i64 iz), .fz (.pf [.int .i64 own])] (.fz (.bool (!okN own was iz))) := by
  refine spec_at (n := 16) (ars := [(.t 5)]) (ac := ac106) Tryz.func106 (by kernel_rfl) (by kernel_rfl) tr106 (by kernel_rfl) ?_
  unfold ac106
  iterate 30 (all_goals (try (first
    | (with_reducible refine ite_in (fun _ => ?_) (fun _ => ?_))
    | (with_reducible refine ⟨fun _ => ?_, fun _ => ?_⟩)
    | (with_reducible refine And.intro ?_ ?_)
    | (with_reducible intro _)
    | (with_reducible exact is_in _)
    | (simp -implicitDefEqProofs only [SD, SF, SL, e_nf, reduceCtorEq, implies_true, ↓reduceIte, Nat.reduceEqDiff, Nat.reduceAdd, Nat.reduceMul, Nat.reduceSub, Nat.reduceLeDiff, Nat.reduceLT, Int.reduceLT, Int.reduceLE, Int.reduceEq, Int.reduceToNat, Int.reduceAdd, Int.reduceSub, Int.reduceNeg, Int.reduceBEq, Int.reduceBNe, Nat.reduceBEq, Int.cast_ofNat_Int, decide_true, decide_false, ne_eq, eq_self_iff_true, beq_eq_false_iff_ne, bne_iff_ne, List.replicate, *]))))
  all_goals (first | (simp_all [okN]; done) | grind [okN])
def ac82 : AC := (.seq (.ops [⟨(some 6), none, (.mv (.c (.bool false)))⟩]) (.seq (.ops [⟨(some 7), none, (.mv (.t 0))⟩, ⟨(some 8), none, (.mv (.t 1))⟩, ⟨(some 9), none, (.bin .eql (.t 7) (.t 8))⟩, ⟨(some 10), none, (.mv (.t 9))⟩, ⟨(some 11), (some (10, false)), (.mv (.t 0))⟩, ⟨(some 12), (some (10, false)), (.mv (.t 2))⟩, ⟨(some 13), (some (10, false)), (.bin .leq (.t 11) (.t 12))⟩, ⟨(some 14), (some (10, false)), (.mv (.t 13))⟩, ⟨(some 15), (some (14, true)), (.mv (.t 1))⟩, ⟨(some 16), (some (14, true)), (.mv (.t 2))⟩, ⟨(some 17), (some (14, true)), (.bin .leq (.t 15) (.t 16))⟩, ⟨(some 18), (some (10, false)), (.pick (.t 14) (.t 17) (.c (.bool false)))⟩, ⟨(some 19), none, (.pick (.t 10) (.c (.bool true)) (.t 18))⟩, ⟨(some 6), none, (.mv (.t 19))⟩]) .ret))
theorem tr82 : Tryz.f82.body.bind (trCode Tryz.prog) = some (strip ac82) := by kernel_rfl
theorem spec82 (was iz own : Int) : Spec Tryz.prog 82 [.fz (.int .i64 was), .fz (.int .i64 iz), .fz (.int .i64 own)] (.fz (.bool (okN own was iz))) := by
  refine spec_at (n := 17) (ars := [(.t 6)]) (ac := ac82) Tryz.func82 (by kernel_rfl) (by kernel_rfl) tr82 (by kernel_rfl) ?_
  unfold ac82
  iterate 30 (all_goals (try (first
    | (with_reducible refine ite_in (fun _ => ?_) (fun _ => ?_))
    | (with_reducible refine ⟨fun _ => ?_, fun _ => ?_⟩)
    | (with_reducible refine And.intro ?_ ?_)
    | (with_reducible intro _)
    | (with_reducible exact is_in _)
    | (simp -implicitDefEqProofs only [SD, SF, SL, e_nf, reduceCtorEq, implies_true, ↓reduceIte, Nat.reduceEqDiff, Nat.reduceAdd, Nat.reduceMul, Nat.reduceSub, Nat.reduceLeDiff, Nat.reduceLT, Int.reduceLT, Int.reduceLE, Int.reduceEq, Int.reduceToNat, Int.reduceAdd, Int.reduceSub, Int.reduceNeg, Int.reduceBEq, Int.reduceBNe, Nat.reduceBEq, Int.cast_ofNat_Int, decide_true, decide_false, ne_eq, eq_self_iff_true, beq_eq_false_iff_ne, bne_iff_ne, List.replicate, *]))))
  all_goals (first | (simp_all [okN]; done) | grind [okN])
def ac105 : AC := (.seq (.ops [⟨(some 2), none, (.alloc [.e0, .e0, (.int .i64 0), (.int .i64 0), (.int .i64 0), (.int .i64 0), (.int .i64 0), (.int .i64 0), (.int .i64 0)])⟩]) (.seq (.ops [⟨(some 4), none, (.build [.e0, .e0, (.int .i64 0), (.int .i64 0), (.int .i64 0), (.int .i64 0), (.int .i64 0), (.int .i64 0), (.int .i64 0)] [(6, (1, (.c (.int .i64 50)))), (7, (1, (.c (.int .i64 50)))), (8, (1, (.c (.int .i64 50))))])⟩, ⟨(some 3), none, (.alloc [.e0, .e0, (.int .i64 0), (.int .i64 0), (.int .i64 0), (.int .i64 0), (.int .i64 0), (.int .i64 0), (.int .i64 0)])⟩, ⟨none, none, (.sto 9 (.t 3) (.t 4))⟩]) (.seq (.seq (.ops [⟨(some 5), none, (.mv (.t 0))⟩, ⟨(some 6), none, (.bin .neq (.t 5) (.c (.str [])))⟩]) (.cond (.t 6) (.ops [⟨(some 7), none, (.mv (.t 0))⟩, ⟨(some 8), none, (.build [(.str []), (.int .i64 0)] [(0, (1, (.t 7))), (1, (1, (.c (.int .i64 100))))])⟩, ⟨(some 9), none, (.buildSl 75 2 1 [(.str []), (.int .i64 0)] [(0, (.t 8))])⟩, ⟨(some 10), none, (.fld 0 (.t 3))⟩, ⟨none, none, (.sto 1 (.t 10) (.t 9))⟩]) .skip)) (.seq (.ops [⟨(some 11), none, (.ld true 9 (.t 3))⟩, ⟨none, none, (.sto 9 (.t 2) (.t 11))⟩]) .ret))))
theorem tr105 : Tryz.f105.body.bind (trCode Tryz.prog) = some (strip ac105) := by kernel_rfl
theorem spec105 (c : List UInt8) : Spec Tryz.prog 105 [.fz (.str c)] (.fz (.agg (encLv (dflt c)))) := by
  refine spec_at (n := 11) (ars := [(.c true 9 2)]) (ac := ac105) Tryz.func105 (by kernel_rfl) (by kernel_rfl) tr105 (by kernel_rfl) ?_
  unfold ac105
  iterate 30 (all_goals (try (first
    | (with_reducible refine ite_in (fun _ => ?_) (fun _ => ?_))
    | (with_reducible refine ⟨fun _ => ?_, fun _ => ?_⟩)
    | (with_reducible refine And.intro ?_ ?_)
    | (with_reducible intro _)
    | (with_reducible exact is_in _)
    | (simp -implicitDefEqProofs only [SD, SF, SL, e_nf, reduceCtorEq, implies_true, ↓reduceIte, Nat.reduceEqDiff, Nat.reduceAdd, Nat.reduceMul, Nat.reduceSub, Nat.reduceLeDiff, Nat.reduceLT, Int.reduceLT, Int.reduceLE, Int.reduceEq, Int.reduceToNat, Int.reduceAdd, Int.reduceSub, Int.reduceNeg, Int.reduceBEq, Int.reduceBNe, Nat.reduceBEq, Int.cast_ofNat_Int, decide_true, decide_false, ne_eq, eq_self_iff_true, beq_eq_false_iff_ne, bne_iff_ne, List.replicate, encLv, dflt, encLU, *]))))
def ac80 : AC := (.seq (.ops [⟨(some 2), none, (.alloc [.e0, .e0, (.int .i64 0), (.int .i64 0), (.int .i64 0), (.int .i64 0), (.int .i64 0), (.int .i64 0), (.int .i64 0)])⟩]) (.seq (.ops [⟨(some 4), none, (.build [.e0, .e0, (.int .i64 0), (.int .i64 0), (.int .i64 0), (.int .i64 0), (.int .i64 0), (.int .i64 0), (.int .i64 0)] [(6, (1, (.c (.int .i64 50)))), (7, (1, (.c (.int .i64 50)))), (8, (1, (.c (.int .i64 50))))])⟩, ⟨(some 3), none, (.alloc [.e0, .e0, (.int .i64 0), (.int .i64 0), (.int .i64 0), (.int .i64 0), (.int .i64 0), (.int .i64 0), (.int .i64 0)])⟩, ⟨none, none, (.sto 9 (.t 3) (.t 4))⟩]) (.seq (.seq (.ops [⟨(some 5), none, (.mv (.t 0))⟩, ⟨(some 6), none, (.bin .neq (.t 5) (.c (.str [])))⟩]) (.cond (.t 6) (.ops [⟨(some 7), none, (.mv (.t 0))⟩, ⟨(some 8), none, (.build [(.str []), (.int .i64 0)] [(0, (1, (.t 7))), (1, (1, (.c (.int .i64 100))))])⟩, ⟨(some 9), none, (.buildSl 75 2 1 [(.str []), (.int .i64 0)] [(0, (.t 8))])⟩, ⟨(some 10), none, (.fld 0 (.t 3))⟩, ⟨none, none, (.sto 1 (.t 10) (.t 9))⟩]) .skip)) (.seq (.ops [⟨(some 11), none, (.ld true 9 (.t 3))⟩, ⟨none, none, (.sto 9 (.t 2) (.t 11))⟩]) .ret))))
theorem tr80 : Tryz.f80.body.bind (trCode Tryz.prog) = some (strip ac80) := by kernel_rfl
theorem spec80 (c : List UInt8) : Spec Tryz.prog 80 [.fz (.str c)] (.fz (.agg (encLv (dflt c)))) := by
  refine spec_at (n := 11) (ars := [(.c true 9 2)]) (ac := ac80) Tryz.func80 (by kernel_rfl) (by kernel_rfl) tr80 (by kernel_rfl) ?_
  unfold ac80
  iterate 30 (all_goals (try (first
    | (with_reducible refine ite_in (fun _ => ?_) (fun _ => ?_))
    | (with_reducible refine ⟨fun _ => ?_, fun _ => ?_⟩)
    | (with_reducible refine And.intro ?_ ?_)
    | (with_reducible intro _)
    | (with_reducible exact is_in _)
    | (simp -implicitDefEqProofs only [SD, SF, SL, e_nf, reduceCtorEq, implies_true, ↓reduceIte, Nat.reduceEqDiff, Nat.reduceAdd, Nat.reduceMul, Nat.reduceSub, Nat.reduceLeDiff, Nat.reduceLT, Int.reduceLT, Int.reduceLE, Int.reduceEq, Int.reduceToNat, Int.reduceAdd, Int.reduceSub, Int.reduceNeg, Int.reduceBEq, Int.reduceBNe, Nat.reduceBEq, Int.cast_ofNat_Int, decide_true, decide_false, ne_eq, eq_self_iff_true, beq_eq_false_iff_ne, bne_iff_ne, List.replicate, encLv, dflt, encLU, *]))))
def ac83 : AC := (.seq (.ops [⟨(some 4), none, (.box (.t 0))⟩, ⟨(some 5), none, (.box (.t 1))⟩, ⟨(some 8), none, (.mv (.c (.bool false)))⟩]) (.seq (.draw (.q false ⟨(some 12), none, (.ld true 9 (.t 4))⟩ (.q false ⟨(some 13), none, (.mv (.t 3))⟩ (.q false ⟨(some 15), none, (.ld true 9 (.t 4))⟩ (.q false ⟨(some 16), none, (.mv (.t 2))⟩ (.q false ⟨(some 18), none, (.ld true 9 (.t 5))⟩ (.q false ⟨(some 19), none, (.mv (.t 2))⟩ (.op ⟨(some 14), none, (.call false 56 [(.t 12), (.t 13)])⟩ (.op ⟨(some 17), none, (.call false 56 [(.t 15), (.t 16)])⟩ (.op ⟨(some 20), none, (.call false 56 [(.t 18), (.t 19)])⟩ (.q false ⟨(some 9), none, (.mv (.t 14))⟩ (.q false ⟨(some 10), none, (.mv (.t 17))⟩ (.q false ⟨(some 11), none, (.mv (.t 20))⟩ .nil))))))))))))) (.seq (.ops [⟨(some 21), none, (.mv (.t 10))⟩, ⟨(some 22), none, (.mv (.t 11))⟩, ⟨(some 23), none, (.mv (.t 9))⟩, ⟨(some 24), none, (.call false 82 [(.t 21), (.t 22), (.t 23)])⟩, ⟨(some 25), none, (.mv (.t 24))⟩, ⟨(some 26), (some (25, true)), (.mv (.t 10))⟩, ⟨(some 27), (some (25, true)), (.mv (.t 11))⟩, ⟨(some 28), (some (25, true)), (.bin .eql (.t 26) (.t 27))⟩, ⟨(some 29), (some (25, true)), (.mv (.t 28))⟩, ⟨(some 30), (some (29, false)), (.mv (.t 2))⟩, ⟨(some 31), (some (29, false)), (.mv (.t 3))⟩, ⟨(some 32), (some (29, false)), (.bin .eql (.t 30) (.t 31))⟩, ⟨(some 33), (some (25, true)), (.pick (.t 29) (.c (.bool true)) (.t 32))⟩, ⟨(some 34), (some (25, true)), (.mv (.t 33))⟩, ⟨(some 35), (some (34, false)), (.mv (.t 10))⟩, ⟨(some 36), (some (34, false)), (.mv (.t 9))⟩, ⟨(some 37), (some (34, false)), (.bin .lss (.t 35) (.t 36))⟩, ⟨(some 38), (some (25, true)), (.pick (.t 34) (.c (.bool true)) (.t 37))⟩, ⟨(some 39), none, (.pick (.t 25) (.t 38) (.c (.bool false)))⟩, ⟨(some 8), none, (.mv (.t 39))⟩]) .ret)))
theorem tr83 : Tryz.f83.body.bind (trCode Tryz.prog) = some (strip ac83) := by kernel_rfl
theorem spec83 (old new : Lv) (u user : List UInt8) : Spec Tryz.prog 83 [.fz (.agg (encLv old)), .fz (.agg (encLv new)), .fz (.str u), .fz (.str user)] (.fz (.bool (okU old new user u))) := by
  refine spec_at (n := 36) (ars := [(.t 8)]) (ac := ac83) Tryz.func83 (by kernel_rfl) (by kernel_rfl) tr83 (by kernel_rfl) ?_
  unfold ac83
  iterate 30 (all_goals (try (first
    | ((with_reducible refine of_kSpec ?_); refine call_fz (spec56 old user) rfl ?_)
    | ((with_reducible refine of_kSpec ?_); refine call_fz (spec56 old u) rfl ?_)
    | ((with_reducible refine of_kSpec ?_); refine call_fz (spec56 new u) rfl ?_)
    | ((with_reducible refine of_kSpec ?_); refine call_fz (spec82 _ _ _) rfl ?_)
    | (with_reducible refine ite_in (fun _ => ?_) (fun _ => ?_))
    | (with_reducible refine ⟨fun _ => ?_, fun _ => ?_⟩)
    | (with_reducible refine And.intro ?_ ?_)
    | (with_reducible intro _)
    | (with_reducible exact is_in _)
    | (simp -implicitDefEqProofs only [SD, SF, SL, e_nf, reduceCtorEq, implies_true, ↓reduceIte, Nat.reduceEqDiff, Nat.reduceAdd, Nat.reduceMul, Nat.reduceSub, Nat.reduceLeDiff, Nat.reduceLT, Int.reduceLT, Int.reduceLE, Int.reduceEq, Int.reduceToNat, Int.reduceAdd, Int.reduceSub, Int.reduceNeg, Int.reduceBEq, Int.reduceBNe, Nat.reduceBEq, Int.cast_ofNat_Int, decide_true, decide_false, ne_eq, eq_self_iff_true, beq_eq_false_iff_ne, bne_iff_ne, List.replicate, encLv, *]))))
  all_goals (first | (simp_all [okU, userV]; done) | grind [okU, userV])

end Go.Proofs.YtcolebkklojccaaGreat.E

namespace Go.Proofs.YtcolebkklojccaaGreat.E
open Go
set_option maxHeartbeats 4000000
set_option maxRecDepth 100000
set_option linter.unusedSimpArgs false
set_option linter.unusedVariables false
attribute [local congr] c_wp c_ops c_op c_opS c_run c_runS c_dt c_seq c_blk c_loop c_S c_put c_bind c_mv c_pick c_nt c_ng c_bin c_binI c_binS c_beq c_B c_eqa c_hd c_cells c_blkK c_box c_vec c_mp c_nck c_mks c_appn c_mkm c_mput c_mlk c_mrm c_take c_ld c_ldF c_cellsK c_st c_fld c_fldv c_ix c_ixp c_ixv c_ixs c_sub c_subs c_len c_lens c_src c_dst c_ow c_app c_ext c_mm c_conv c_str c_isn c_fill c_rows c_boxo c_frz c_frzO c_frzA c_frzV c_spec c_specO c_opsP c_opP c_runP c_specP c_Z c_qretP c_fz c_fn c_gv c_cond c_res1 c_resL c_ret c_qret c_ite c_unr c_nx c_bk c_cut c_is
attribute [local irreducible] dwp
def ac114 : AC := (.seq (.ops [⟨(some 2), none, (.box (.t 0))⟩, ⟨(some 3), none, (.mv (.c (.bool false)))⟩]) (.seq (.ops [⟨(some 4), none, (.fld 3 (.t 2))⟩, ⟨(some 5), none, (.ld false 1 (.t 4))⟩, ⟨(some 6), none, (.ld false 1 (.t 1))⟩, ⟨(some 7), none, (.bin .eql (.t 5) (.t 6))⟩, ⟨(some 3), none, (.mv (.t 7))⟩]) .ret))
theorem tr114 : Tryz.f114.body.bind (trCode Tryz.prog) = some (strip ac114) := by kernel_rfl
theorem spec114 (e : Ev) (k : Int) : Spec Tryz.prog 114 [.fz (.agg (encEv e)), .fz (.pf [.int .i64 k])] (.fz (.bool (decide (e.kind = k)))) := by
  refine spec_at (n := 6) (ars := [(.t 3)]) (ac := ac114) Tryz.func114 (by kernel_rfl) (by kernel_rfl) tr114 (by kernel_rfl) ?_
  unfold ac114
  iterate 30 (all_goals (try (first
    | (with_reducible refine ite_in (fun _ => ?_) (fun _ => ?_))
    | (with_reducible refine ⟨fun _ => ?_, fun _ => ?_⟩)
    | (with_reducible refine And.intro ?_ ?_)
    | (with_reducible intro _)
    | (with_reducible exact is_in _)
    | (simp -implicitDefEqProofs only [SD, SF, SL, e_nf, reduceCtorEq, implies_true, ↓reduceIte, Nat.reduceEqDiff, Nat.reduceAdd, Nat.reduceMul, Nat.reduceSub, Nat.reduceLeDiff, Nat.reduceLT, Int.reduceLT, Int.reduceLE, Int.reduceEq, Int.reduceToNat, Int.reduceAdd, Int.reduceSub, Int.reduceNeg, Int.reduceBEq, Int.reduceBNe, Nat.reduceBEq, Int.cast_ofNat_Int, decide_true, decide_false, ne_eq, eq_self_iff_true, beq_eq_false_iff_ne, bne_iff_ne, List.replicate, encEv, *]))))
def ac43 : AC := (.seq (.ops [⟨(some 4), none, (.mv (.c (.int .i64 0)))⟩]) (.seq (.seq (.ops [⟨(some 6), none, (.mv (.t 0))⟩, ⟨(some 7), none, (.len (.t 6))⟩, ⟨(some 8), none, (.mv (.c (.int .i64 0)))⟩]) (.block 0 (.loop (.seq (.ops [⟨(some 9), none, (.bin .lss (.t 8) (.t 7))⟩]) (.seq (.cond (.t 9) .skip (.exit 0)) (.seq (.block 1 (.seq (.ops [⟨(some 10), none, (.mv (.t 8))⟩, ⟨(some 5), none, (.mv (.t 10))⟩]) (.seq (.ops [⟨(some 11), none, (.mv (.t 1))⟩, ⟨(some 12), none, (.mv (.t 0))⟩, ⟨(some 13), none, (.mv (.t 5))⟩, ⟨(some 14), none, (.ix 29 (.t 12) (.t 13))⟩, ⟨(some 15), none, (.ld true 29 (.t 14))⟩, ⟨(some 16), none, (.callv (.t 11) [(.t 15)])⟩]) (.cond (.t 16) (.seq (.ops [⟨(some 17), none, (.mv (.t 5))⟩, ⟨(some 4), none, (.mv (.t 17))⟩]) .ret) .skip)))) (.ops [⟨(some 18), none, (.bin .add (.t 8) (.c (.int .i64 1)))⟩, ⟨(some 8), none, (.mv (.t 18))⟩]))))))) (.seq (.ops [⟨(some 4), none, (.mv (.c (.int .i64 (-1))))⟩]) .ret)))
theorem tr43 : Tryz.f43.body.bind (trCode Tryz.prog) = some (strip ac43) := by kernel_rfl
theorem spec43 (es : List Ev) (k : Int) : Spec Tryz.prog 43 [.fz (.sl 29 (es.map encEv)), .fz (.fn 114 [.pf [.int .i64 k]])] (.fz (.int .i64 (idxL es k 0))) := by
  refine spec_at (n := 17) (ars := [(.t 4)]) (ac := ac43) Tryz.func43 (by kernel_rfl) (by kernel_rfl) tr43 (by kernel_rfl) ?_
  unfold ac43
  simp -implicitDefEqProofs only [SD, SF, SL, e_nf, reduceCtorEq, implies_true, ↓reduceIte, Nat.reduceEqDiff, Nat.reduceAdd, Nat.reduceMul, Nat.reduceSub, Nat.reduceLeDiff, Nat.reduceLT, Int.reduceLT, Int.reduceLE, Int.reduceEq, Int.reduceToNat, Int.reduceAdd, Int.reduceSub, Int.reduceNeg, Int.reduceBEq, Int.reduceBNe, Nat.reduceBEq, Int.cast_ofNat_Int, decide_true, decide_false, ne_eq, eq_self_iff_true, beq_eq_false_iff_ne, bne_iff_ne, List.replicate]
  intro hl
  refine loop_q (X := List Ev × List Ev × Unit) (fun n x => es = x.1 ++ x.2.1 ∧ n = x.2.1.length ∧ (idxL es k 0 = idxL x.2.1 k x.1.length)) (fun x => [(8, .int .i64 x.1.length)]) (fun _ => []) [4, 5, 9, 10, 11, 12, 13, 14, 15, 16, 17, 18] []  (es).length ([], es, ()) ⟨rfl, rfl, by first | rfl | assumption | (simp_all [idxL]; done) | grind [idxL]⟩ ?_ ?_
  · simp -implicitDefEqProofs only [SD, SF, SL, e_nf, reduceCtorEq, implies_true, ↓reduceIte, Nat.reduceEqDiff, Nat.reduceAdd, Nat.reduceMul, Nat.reduceSub, Nat.reduceLeDiff, Nat.reduceLT, Int.reduceLT, Int.reduceLE, Int.reduceEq, Int.reduceToNat, Int.reduceAdd, Int.reduceSub, Int.reduceNeg, Int.reduceBEq, Int.reduceBNe, Nat.reduceBEq, Int.cast_ofNat_Int, decide_true, decide_false, ne_eq, eq_self_iff_true, beq_eq_false_iff_ne, bne_iff_ne, List.replicate, idxL] <;> simp
  · rintro n ⟨pre, rest, a⟩ ⟨he, rfl, hI⟩
    dsimp only at he hI
    cases rest with
    | nil =>
      obtain rfl : es = pre := by simpa using he
      clear he
      have hlt : ¬ (((es).length : Int) < ((es).length : Int)) := Int.lt_irrefl _
      iterate 30 (all_goals (try (first
        | ((with_reducible refine of_kSpec ?_); refine call_fz (spec114 x k) rfl ?_)
        | (with_reducible refine ite_in (fun _ => ?_) (fun _ => ?_))
        | (with_reducible refine ⟨fun _ => ?_, fun _ => ?_⟩)
        | (with_reducible refine And.intro ?_ ?_)
        | (with_reducible intro _)
        | (with_reducible exact is_in _)
        | (simp -implicitDefEqProofs only [SD, SF, SL, e_nf, reduceCtorEq, implies_true, ↓reduceIte, Nat.reduceEqDiff, Nat.reduceAdd, Nat.reduceMul, Nat.reduceSub, Nat.reduceLeDiff, Nat.reduceLT, Int.reduceLT, Int.reduceLE, Int.reduceEq, Int.reduceToNat, Int.reduceAdd, Int.reduceSub, Int.reduceNeg, Int.reduceBEq, Int.reduceBNe, Nat.reduceBEq, Int.cast_ofNat_Int, decide_true, decide_false, ne_eq, eq_self_iff_true, beq_eq_false_iff_ne, bne_iff_ne, List.replicate, idxL, *]))))

    | cons x rest =>
      have hlt := cut_lt he
      have hx := cutD encEv he
      simp only [encEv] at hx
      have hw := wrap_len (n := pre.length) (m := (es).length) (cut_lt' he) (by simpa using hl)
      replace he := Hd.mk he
      have hx2 : (List.map encEv es).getD pre.length [] = encEv x := cutD encEv he.out
      iterate 30 (all_goals (try (first
        | ((with_reducible refine back_in rest.length [4, 5, 9, 10, 11, 12, 13, 14, 15, 16, 17, 18] [] (pre ++ [x], rest, a) ?_ ⟨?_, ?_, ?_⟩ ?_)
           · simp
           · exact cut_snoc he.out
           · rfl
           · first | rfl | assumption | (simp_all [idxL]; done) | grind [idxL]
           · first | (simp -implicitDefEqProofs only [SD, SF, SL, e_nf, reduceCtorEq, implies_true, ↓reduceIte, Nat.reduceEqDiff, Nat.reduceAdd, Nat.reduceMul, Nat.reduceSub, Nat.reduceLeDiff, Nat.reduceLT, Int.reduceLT, Int.reduceLE, Int.reduceEq, Int.reduceToNat, Int.reduceAdd, Int.reduceSub, Int.reduceNeg, Int.reduceBEq, Int.reduceBNe, Nat.reduceBEq, Int.cast_ofNat_Int, decide_true, decide_false, ne_eq, eq_self_iff_true, beq_eq_false_iff_ne, bne_iff_ne, List.replicate, idxL] <;> simp <;> done) | (simp -implicitDefEqProofs only [SD, SF, SL, e_nf, reduceCtorEq, implies_true, ↓reduceIte, Nat.reduceEqDiff, Nat.reduceAdd, Nat.reduceMul, Nat.reduceSub, Nat.reduceLeDiff, Nat.reduceLT, Int.reduceLT, Int.reduceLE, Int.reduceEq, Int.reduceToNat, Int.reduceAdd, Int.reduceSub, Int.reduceNeg, Int.reduceBEq, Int.reduceBNe, Nat.reduceBEq, Int.cast_ofNat_Int, decide_true, decide_false, ne_eq, eq_self_iff_true, beq_eq_false_iff_ne, bne_iff_ne, List.replicate, idxL, *] <;> simp_all <;> done))
        | ((with_reducible refine of_kSpec ?_); refine call_fz (spec114 x k) rfl ?_)
        | (with_reducible refine ite_in (fun _ => ?_) (fun _ => ?_))
        | (with_reducible refine ⟨fun _ => ?_, fun _ => ?_⟩)
        | (with_reducible refine And.intro ?_ ?_)
        | (with_reducible intro _)
        | (with_reducible exact is_in _)
        | (simp -implicitDefEqProofs only [SD, SF, SL, e_nf, reduceCtorEq, implies_true, ↓reduceIte, Nat.reduceEqDiff, Nat.reduceAdd, Nat.reduceMul, Nat.reduceSub, Nat.reduceLeDiff, Nat.reduceLT, Int.reduceLT, Int.reduceLE, Int.reduceEq, Int.reduceToNat, Int.reduceAdd, Int.reduceSub, Int.reduceNeg, Int.reduceBEq, Int.reduceBNe, Nat.reduceBEq, Int.cast_ofNat_Int, decide_true, decide_false, ne_eq, eq_self_iff_true, beq_eq_false_iff_ne, bne_iff_ne, List.replicate, idxL, *]))))
def ac102 : AC := (.seq (.ops [⟨(some 3), none, (.box (.t 1))⟩, ⟨(some 4), none, (.mv (.c (.int .i64 0)))⟩]) (.seq (.ops [⟨(some 5), none, (.mv (.t 0))⟩, ⟨(some 6), none, (.mkfn 114 [(.t 3)])⟩, ⟨(some 7), none, (.call false 43 [(.t 5), (.t 6)])⟩, ⟨(some 4), none, (.mv (.t 7))⟩]) .ret))
theorem tr102 : Tryz.f102.body.bind (trCode Tryz.prog) = some (strip ac102) := by kernel_rfl
theorem spec102 (es : List Ev) (k : Int) : Spec Tryz.prog 102 [.fz (.sl 29 (es.map encEv)), .fz (.int .i64 k)] (.fz (.int .i64 (idxL es k 0))) := by
  refine spec_at (n := 6) (ars := [(.t 4)]) (ac := ac102) Tryz.func102 (by kernel_rfl) (by kernel_rfl) tr102 (by kernel_rfl) ?_
  unfold ac102
  iterate 30 (all_goals (try (first
    | ((with_reducible refine of_kSpec ?_); refine call_fz (spec43 es k) rfl ?_)
    | (with_reducible refine ite_in (fun _ => ?_) (fun _ => ?_))
    | (with_reducible refine ⟨fun _ => ?_, fun _ => ?_⟩)
    | (with_reducible refine And.intro ?_ ?_)
    | (with_reducible intro _)
    | (with_reducible exact is_in _)
    | (simp -implicitDefEqProofs only [SD, SF, SL, e_nf, reduceCtorEq, implies_true, ↓reduceIte, Nat.reduceEqDiff, Nat.reduceAdd, Nat.reduceMul, Nat.reduceSub, Nat.reduceLeDiff, Nat.reduceLT, Int.reduceLT, Int.reduceLE, Int.reduceEq, Int.reduceToNat, Int.reduceAdd, Int.reduceSub, Int.reduceNeg, Int.reduceBEq, Int.reduceBNe, Nat.reduceBEq, Int.cast_ofNat_Int, decide_true, decide_false, ne_eq, eq_self_iff_true, beq_eq_false_iff_ne, bne_iff_ne, List.replicate, *]))))
def ac103 : AC := (.seq (.ops [⟨(some 2), none, (.mv (.c .e0))⟩]) (.seq (.seq (.ops [⟨(some 3), none, (.mv (.t 0))⟩, ⟨(some 4), none, (.isn false (.t 3))⟩]) (.cond (.t 4) (.seq (.ops [⟨(some 2), none, (.mv (.c .e0))⟩]) .ret) .skip)) (.seq (.ops [⟨(some 5), none, (.buildSl 75 2 0 [(.str []), (.int .i64 0)] [])⟩, ⟨(some 6), none, (.mv (.t 0))⟩, ⟨(some 7), none, (.app 75 2 24 (.t 5) (.t 6))⟩, ⟨(some 2), none, (.mv (.t 7))⟩]) .ret)))
theorem tr103 : Tryz.f103.body.bind (trCode Tryz.prog) = some (strip ac103) := by kernel_rfl
theorem spec103 (us : List LU) (hb : us.length ≤ 1000) : Spec Tryz.prog 103 [.fz (.sl 2 (us.map encLU))] (.own 75 2 (us.map encLU)) := by
  refine spec_at (n := 7) (ars := [(.t 2)]) (ac := ac103) Tryz.func103 (by kernel_rfl) (by kernel_rfl) tr103 (by kernel_rfl) ?_
  unfold ac103
  have h1 : us.length ≤ maxLen := by simp only [maxLen]; omega
  have h2 : us.length * 24 ≤ 140737488355328 := by omega
  iterate 30 (all_goals (try (first
    | (with_reducible refine ite_in (fun _ => ?_) (fun _ => ?_))
    | (with_reducible refine ⟨fun _ => ?_, fun _ => ?_⟩)
    | (with_reducible refine And.intro ?_ ?_)
    | (with_reducible intro _)
    | (with_reducible exact is_in _)
    | (simp -implicitDefEqProofs only [SD, SF, SL, e_nf, reduceCtorEq, implies_true, ↓reduceIte, Nat.reduceEqDiff, Nat.reduceAdd, Nat.reduceMul, Nat.reduceSub, Nat.reduceLeDiff, Nat.reduceLT, Int.reduceLT, Int.reduceLE, Int.reduceEq, Int.reduceToNat, Int.reduceAdd, Int.reduceSub, Int.reduceNeg, Int.reduceBEq, Int.reduceBNe, Nat.reduceBEq, Int.cast_ofNat_Int, decide_true, decide_false, ne_eq, eq_self_iff_true, beq_eq_false_iff_ne, bne_iff_ne, List.replicate, *]))))
  all_goals (simp_all)
def ac104 : AC := (.seq (.ops [⟨(some 2), none, (.mv (.c .e0))⟩]) (.seq (.seq (.ops [⟨(some 3), none, (.mv (.t 0))⟩, ⟨(some 4), none, (.isn false (.t 3))⟩]) (.cond (.t 4) (.seq (.ops [⟨(some 2), none, (.mv (.c .e0))⟩]) .ret) .skip)) (.seq (.ops [⟨(some 5), none, (.buildSl 102 2 0 [(.int .i64 0), (.int .i64 0)] [])⟩, ⟨(some 6), none, (.mv (.t 0))⟩, ⟨(some 7), none, (.app 102 2 16 (.t 5) (.t 6))⟩, ⟨(some 2), none, (.mv (.t 7))⟩]) .ret)))
theorem tr104 : Tryz.f104.body.bind (trCode Tryz.prog) = some (strip ac104) := by kernel_rfl
theorem spec104 (us : List LK) (hb : us.length ≤ 1000) : Spec Tryz.prog 104 [.fz (.sl 2 (us.map encLK))] (.own 102 2 (us.map encLK)) := by
  refine spec_at (n := 7) (ars := [(.t 2)]) (ac := ac104) Tryz.func104 (by kernel_rfl) (by kernel_rfl) tr104 (by kernel_rfl) ?_
  unfold ac104
  have h1 : us.length ≤ maxLen := by simp only [maxLen]; omega
  have h2 : us.length * 16 ≤ 140737488355328 := by omega
  iterate 30 (all_goals (try (first
    | (with_reducible refine ite_in (fun _ => ?_) (fun _ => ?_))
    | (with_reducible refine ⟨fun _ => ?_, fun _ => ?_⟩)
    | (with_reducible refine And.intro ?_ ?_)
    | (with_reducible intro _)
    | (with_reducible exact is_in _)
    | (simp -implicitDefEqProofs only [SD, SF, SL, e_nf, reduceCtorEq, implies_true, ↓reduceIte, Nat.reduceEqDiff, Nat.reduceAdd, Nat.reduceMul, Nat.reduceSub, Nat.reduceLeDiff, Nat.reduceLT, Int.reduceLT, Int.reduceLE, Int.reduceEq, Int.reduceToNat, Int.reduceAdd, Int.reduceSub, Int.reduceNeg, Int.reduceBEq, Int.reduceBNe, Nat.reduceBEq, Int.cast_ofNat_Int, decide_true, decide_false, ne_eq, eq_self_iff_true, beq_eq_false_iff_ne, bne_iff_ne, List.replicate, *]))))
  all_goals (simp_all)
def ac90 : AC := (.seq (.ops [⟨(some 2), none, (.alloc [.e0, .e0, (.int .i64 0), (.int .i64 0), (.int .i64 0), (.int .i64 0), (.int .i64 0), (.int .i64 0), (.int .i64 0)])⟩, ⟨(some 3), none, (.mv (.c (.str [])))⟩]) (.seq (.ops [⟨(some 4), none, (.mv (.c (.str [])))⟩]) (.seq (.seq (.ops [⟨(some 8), none, (.mv (.t 0))⟩, ⟨(some 9), none, (.call false 102 [(.t 8), (.c (.int .i64 1))])⟩, ⟨(some 5), none, (.mv (.t 9))⟩]) (.seq (.ops [⟨(some 10), none, (.mv (.t 5))⟩, ⟨(some 11), none, (.bin .geq (.t 10) (.c (.int .i64 0)))⟩]) (.cond (.t 11) (.ops [⟨(some 12), none, (.mv (.t 0))⟩, ⟨(some 13), none, (.mv (.t 5))⟩, ⟨(some 14), none, (.ix 29 (.t 12) (.t 13))⟩, ⟨(some 15), none, (.fld 2 (.t 14))⟩, ⟨(some 16), none, (.ld false 1 (.t 15))⟩, ⟨(some 4), none, (.mv (.t 16))⟩]) .skip))) (.seq (.seq (.ops [⟨(some 17), none, (.mv (.t 0))⟩, ⟨(some 18), none, (.call false 102 [(.t 17), (.c (.int .i64 3))])⟩, ⟨(some 6), none, (.mv (.t 18))⟩]) (.seq (.ops [⟨(some 19), none, (.mv (.t 6))⟩, ⟨(some 20), none, (.bin .geq (.t 19) (.c (.int .i64 0)))⟩]) (.cond (.t 20) (.seq (.ops [⟨(some 21), none, (.mv (.t 0))⟩, ⟨(some 22), none, (.mv (.t 6))⟩, ⟨(some 23), none, (.ix 29 (.t 21) (.t 22))⟩, ⟨(some 24), none, (.fld 10 (.t 23))⟩, ⟨(some 25), none, (.fld 7 (.t 24))⟩, ⟨(some 26), none, (.ld true 9 (.t 25))⟩, ⟨(some 7), none, (.alloc [.e0, .e0, (.int .i64 0), (.int .i64 0), (.int .i64 0), (.int .i64 0), (.int .i64 0), (.int .i64 0), (.int .i64 0)])⟩, ⟨none, none, (.sto 9 (.t 7) (.t 26))⟩]) (.seq (.draw (.q false ⟨(some 27), none, (.fld 0 (.t 7))⟩ (.q false ⟨(some 28), none, (.ld false 1 (.t 27))⟩ (.q false ⟨(some 30), none, (.fld 1 (.t 7))⟩ (.q false ⟨(some 31), none, (.ld false 1 (.t 30))⟩ (.op ⟨(some 29), none, (.call false 103 [(.t 28)])⟩ (.q false ⟨(some 33), none, (.fld 0 (.t 7))⟩ (.op ⟨(some 32), none, (.call false 104 [(.t 31)])⟩ (.op ⟨none, none, (.sto 1 (.t 33) (.t 29))⟩ (.q false ⟨(some 34), none, (.fld 1 (.t 7))⟩ (.op ⟨none, none, (.sto 1 (.t 34) (.t 32))⟩ .nil))))))))))) (.seq (.ops [⟨(some 35), none, (.ld true 9 (.t 7))⟩, ⟨(some 36), none, (.mv (.t 4))⟩, ⟨none, none, (.sto 9 (.t 2) (.t 35))⟩, ⟨(some 3), none, (.mv (.t 36))⟩]) .ret))) .skip))) (.seq (.ops [⟨(some 37), none, (.mv (.t 4))⟩, ⟨(some 38), none, (.call false 105 [(.t 37)])⟩, ⟨(some 39), none, (.mv (.t 4))⟩, ⟨none, none, (.sto 9 (.t 2) (.t 38))⟩, ⟨(some 3), none, (.mv (.t 39))⟩]) .ret)))))
theorem tr90 : Tryz.f90.body.bind (trCode Tryz.prog) = some (strip ac90) := by kernel_rfl
theorem spec90 (es : List Ev) (hb : ∀ e ∈ es, e.lv.users.length ≤ 1000 ∧ e.lv.kinds.length ≤ 1000) : Spec Tryz.prog 90 [.fz (.sl 29 (es.map encEv))] (.fz (.tup [.agg (encLv (levelsL es)), .str (creatorL es)])) := by
  refine spec_at (n := 39) (ars := [(.c true 9 2), (.t 3)]) (ac := ac90) Tryz.func90 (by kernel_rfl) (by kernel_rfl) tr90 (by kernel_rfl) ?_
  unfold ac90
  have h1 := idx_spec es 1 0
  have h3 := idx_spec es 3 0
  have hm1 : ¬ ((0 : Int) ≤ -1) := by decide
  rcases h1 with ⟨pre1, e1, rest1, he1, hi1, hf1⟩ | ⟨hi1, hf1⟩
  · obtain hx1 := cutD encEv he1
    simp only [encEv] at hx1
    have hq1 := cut_lt he1
    rw [Nat.zero_add] at hi1
    replace he1 := Hd.mk he1
    rcases h3 with ⟨pre3, e3, rest3, he3, hi3, hf3⟩ | ⟨hi3, hf3⟩
    · have hb3 := hb e3 (by rw [he3]; simp)
      obtain hx3 := cutD encEv he3
      simp only [encEv] at hx3
      have hq3 := cut_lt he3
      rw [Nat.zero_add] at hi3
      replace he3 := Hd.mk he3
      iterate 60 (all_goals (try (first
        | ((with_reducible refine of_kSpec ?_); refine call_fz (spec102 es 1) rfl ?_)
        | ((with_reducible refine of_kSpec ?_); refine call_fz (spec102 es 3) rfl ?_)
        | ((with_reducible refine of_kSpec ?_); refine call_fz (spec105 _) rfl ?_)
        | ((with_reducible refine of_kSpec ?_); refine call_ow (spec103 e3.lv.users hb3.1) rfl ?_)
        | ((with_reducible refine of_kSpec ?_); refine call_ow (spec104 e3.lv.kinds hb3.2) rfl ?_)
        | (with_reducible refine ite_in (fun _ => ?_) (fun _ => ?_))
        | (with_reducible refine ⟨fun _ => ?_, fun _ => ?_⟩)
        | (with_reducible refine And.intro ?_ ?_)
        | (with_reducible intro _)
        | (with_reducible exact is_in _)
        | (simp -implicitDefEqProofs only [SD, SF, SL, e_nf, reduceCtorEq, implies_true, ↓reduceIte, Nat.reduceEqDiff, Nat.reduceAdd, Nat.reduceMul, Nat.reduceSub, Nat.reduceLeDiff, Nat.reduceLT, Int.reduceLT, Int.reduceLE, Int.reduceEq, Int.reduceToNat, Int.reduceAdd, Int.reduceSub, Int.reduceNeg, Int.reduceBEq, Int.reduceBNe, Nat.reduceBEq, Int.cast_ofNat_Int, decide_true, decide_false, ne_eq, eq_self_iff_true, beq_eq_false_iff_ne, bne_iff_ne, List.replicate, encLv, encEv, *]))))
      all_goals (simp_all [levelsL, creatorL, encLv])
    · skip
      iterate 60 (all_goals (try (first
        | ((with_reducible refine of_kSpec ?_); refine call_fz (spec102 es 1) rfl ?_)
        | ((with_reducible refine of_kSpec ?_); refine call_fz (spec102 es 3) rfl ?_)
        | ((with_reducible refine of_kSpec ?_); refine call_fz (spec105 _) rfl ?_)
        | ((with_reducible refine of_kSpec ?_); refine call_ow (spec103 e3.lv.users hb3.1) rfl ?_)
        | ((with_reducible refine of_kSpec ?_); refine call_ow (spec104 e3.lv.kinds hb3.2) rfl ?_)
        | (with_reducible refine ite_in (fun _ => ?_) (fun _ => ?_))
        | (with_reducible refine ⟨fun _ => ?_, fun _ => ?_⟩)
        | (with_reducible refine And.intro ?_ ?_)
        | (with_reducible intro _)
        | (with_reducible exact is_in _)
        | (simp -implicitDefEqProofs only [SD, SF, SL, e_nf, reduceCtorEq, implies_true, ↓reduceIte, Nat.reduceEqDiff, Nat.reduceAdd, Nat.reduceMul, Nat.reduceSub, Nat.reduceLeDiff, Nat.reduceLT, Int.reduceLT, Int.reduceLE, Int.reduceEq, Int.reduceToNat, Int.reduceAdd, Int.reduceSub, Int.reduceNeg, Int.reduceBEq, Int.reduceBNe, Nat.reduceBEq, Int.cast_ofNat_Int, decide_true, decide_false, ne_eq, eq_self_iff_true, beq_eq_false_iff_ne, bne_iff_ne, List.replicate, encLv, encEv, *]))))
      all_goals (simp_all [levelsL, creatorL, encLv])
  · skip
    rcases h3 with ⟨pre3, e3, rest3, he3, hi3, hf3⟩ | ⟨hi3, hf3⟩
    · have hb3 := hb e3 (by rw [he3]; simp)
      obtain hx3 := cutD encEv he3
      simp only [encEv] at hx3
      have hq3 := cut_lt he3
      rw [Nat.zero_add] at hi3
      replace he3 := Hd.mk he3
      iterate 60 (all_goals (try (first
        | ((with_reducible refine of_kSpec ?_); refine call_fz (spec102 es 1) rfl ?_)
        | ((with_reducible refine of_kSpec ?_); refine call_fz (spec102 es 3) rfl ?_)
        | ((with_reducible refine of_kSpec ?_); refine call_fz (spec105 _) rfl ?_)
        | ((with_reducible refine of_kSpec ?_); refine call_ow (spec103 e3.lv.users hb3.1) rfl ?_)
        | ((with_reducible refine of_kSpec ?_); refine call_ow (spec104 e3.lv.kinds hb3.2) rfl ?_)
        | (with_reducible refine ite_in (fun _ => ?_) (fun _ => ?_))
        | (with_reducible refine ⟨fun _ => ?_, fun _ => ?_⟩)
        | (with_reducible refine And.intro ?_ ?_)
        | (with_reducible intro _)
        | (with_reducible exact is_in _)
        | (simp -implicitDefEqProofs only [SD, SF, SL, e_nf, reduceCtorEq, implies_true, ↓reduceIte, Nat.reduceEqDiff, Nat.reduceAdd, Nat.reduceMul, Nat.reduceSub, Nat.reduceLeDiff, Nat.reduceLT, Int.reduceLT, Int.reduceLE, Int.reduceEq, Int.reduceToNat, Int.reduceAdd, Int.reduceSub, Int.reduceNeg, Int.reduceBEq, Int.reduceBNe, Nat.reduceBEq, Int.cast_ofNat_Int, decide_true, decide_false, ne_eq, eq_self_iff_true, beq_eq_false_iff_ne, bne_iff_ne, List.replicate, encLv, encEv, *]))))
      all_goals (simp_all [levelsL, creatorL, encLv])
    · skip
      iterate 60 (all_goals (try (first
        | ((with_reducible refine of_kSpec ?_); refine call_fz (spec102 es 1) rfl ?_)
        | ((with_reducible refine of_kSpec ?_); refine call_fz (spec102 es 3) rfl ?_)
        | ((with_reducible refine of_kSpec ?_); refine call_fz (spec105 _) rfl ?_)
        | ((with_reducible refine of_kSpec ?_); refine call_ow (spec103 e3.lv.users hb3.1) rfl ?_)
        | ((with_reducible refine of_kSpec ?_); refine call_ow (spec104 e3.lv.kinds hb3.2) rfl ?_)
        | (with_reducible refine ite_in (fun _ => ?_) (fun _ => ?_))
        | (with_reducible refine ⟨fun _ => ?_, fun _ => ?_⟩)
        | (with_reducible refine And.intro ?_ ?_)
        | (with_reducible intro _)
        | (with_reducible exact is_in _)
        | (simp -implicitDefEqProofs only [SD, SF, SL, e_nf, reduceCtorEq, implies_true, ↓reduceIte, Nat.reduceEqDiff, Nat.reduceAdd, Nat.reduceMul, Nat.reduceSub, Nat.reduceLeDiff, Nat.reduceLT, Int.reduceLT, Int.reduceLE, Int.reduceEq, Int.reduceToNat, Int.reduceAdd, Int.reduceSub, Int.reduceNeg, Int.reduceBEq, Int.reduceBNe, Nat.reduceBEq, Int.cast_ofNat_Int, decide_true, decide_false, ne_eq, eq_self_iff_true, beq_eq_false_iff_ne, bne_iff_ne, List.replicate, encLv, encEv, *]))))
      all_goals (simp_all [levelsL, creatorL, encLv])

def ac55 : AC := (.seq (.ops [⟨(some 2), none, (.alloc [.e0, .e0, (.int .i64 0), (.int .i64 0), (.int .i64 0), (.int .i64 0), (.int .i64 0), (.int .i64 0), (.int .i64 0)])⟩, ⟨(some 3), none, (.mv (.c (.str [])))⟩]) (.seq (.ops [⟨(some 4), none, (.mv (.c (.str [])))⟩]) (.seq (.ops [⟨(some 5), none, (.mv (.c (.bool false)))⟩]) (.seq (.seq (.ops [⟨(some 6), none, (.mv (.c (.int .i64 0)))⟩]) (.block 0 (.loop (.seq (.seq (.ops [⟨(some 8), none, (.mv (.t 6))⟩, ⟨(some 9), none, (.mv (.t 0))⟩, ⟨(some 10), none, (.len (.t 9))⟩, ⟨(some 11), none, (.bin .lss (.t 8) (.t 10))⟩, ⟨(some 12), none, (.mv (.t 11))⟩, ⟨(some 13), (some (12, true)), (.mv (.t 5))⟩, ⟨(some 14), (some (12, true)), (.nt (.t 13))⟩, ⟨(some 15), none, (.pick (.t 12) (.t 14) (.c (.bool false)))⟩]) (.cond (.t 15) .skip (.exit 0))) (.seq (.block 1 (.seq (.ops [⟨(some 18), none, (.mv (.t 0))⟩, ⟨(some 19), none, (.mv (.t 6))⟩, ⟨(some 20), none, (.ix 29 (.t 18) (.t 19))⟩, ⟨(some 21), none, (.fld 3 (.t 20))⟩, ⟨(some 22), none, (.ld false 1 (.t 21))⟩, ⟨(some 23), none, (.bin .eql (.t 22) (.c (.int .i64 1)))⟩]) (.cond (.t 23) (.seq (.ops [⟨(some 24), none, (.mv (.t 0))⟩, ⟨(some 25), none, (.mv (.t 6))⟩, ⟨(some 26), none, (.ix 29 (.t 24) (.t 25))⟩, ⟨(some 27), none, (.fld 2 (.t 26))⟩, ⟨(some 28), none, (.ld false 1 (.t 27))⟩, ⟨(some 4), none, (.mv (.t 28))⟩]) (.ops [⟨(some 5), none, (.mv (.c (.bool true)))⟩])) .skip))) (.ops [⟨(some 16), none, (.mv (.t 6))⟩, ⟨(some 17), none, (.bin .add (.t 16) (.c (.int .i64 1)))⟩, ⟨(some 6), none, (.mv (.t 17))⟩])))))) (.seq (.seq (.ops [⟨(some 7), none, (.mv (.c (.int .i64 0)))⟩]) (.block 2 (.loop (.seq (.seq (.ops [⟨(some 29), none, (.mv (.t 7))⟩, ⟨(some 30), none, (.mv (.t 0))⟩, ⟨(some 31), none, (.len (.t 30))⟩, ⟨(some 32), none, (.bin .lss (.t 29) (.t 31))⟩]) (.cond (.t 32) .skip (.exit 2))) (.seq (.block 3 (.seq (.ops [⟨(some 35), none, (.mv (.t 0))⟩, ⟨(some 36), none, (.mv (.t 7))⟩, ⟨(some 37), none, (.ix 29 (.t 35) (.t 36))⟩, ⟨(some 38), none, (.fld 3 (.t 37))⟩, ⟨(some 39), none, (.ld false 1 (.t 38))⟩, ⟨(some 40), none, (.bin .eql (.t 39) (.c (.int .i64 3)))⟩]) (.cond (.t 40) (.seq (.ops [⟨(some 41), none, (.mv (.t 0))⟩, ⟨(some 42), none, (.mv (.t 7))⟩, ⟨(some 43), none, (.ix 29 (.t 41) (.t 42))⟩, ⟨(some 44), none, (.fld 10 (.t 43))⟩, ⟨(some 45), none, (.fld 7 (.t 44))⟩, ⟨(some 46), none, (.ld true 9 (.t 45))⟩, ⟨(some 47), none, (.mv (.t 4))⟩, ⟨none, none, (.sto 9 (.t 2) (.t 46))⟩, ⟨(some 3), none, (.mv (.t 47))⟩]) .ret) .skip))) (.ops [⟨(some 33), none, (.mv (.t 7))⟩, ⟨(some 34), none, (.bin .add (.t 33) (.c (.int .i64 1)))⟩, ⟨(some 7), none, (.mv (.t 34))⟩])))))) (.seq (.ops [⟨(some 48), none, (.mv (.t 4))⟩, ⟨(some 49), none, (.call false 80 [(.t 48)])⟩, ⟨(some 50), none, (.mv (.t 4))⟩, ⟨none, none, (.sto 9 (.t 2) (.t 49))⟩, ⟨(some 3), none, (.mv (.t 50))⟩]) .ret))))))
theorem tr55 : Tryz.f55.body.bind (trCode Tryz.prog) = some (strip ac55) := by kernel_rfl
theorem spec55 (es : List Ev) : Spec Tryz.prog 55 [.fz (.sl 29 (es.map encEv))] (.fz (.tup [.agg (encLv (levelsL es)), .str (creatorL es)])) := by
  refine spec_at (n := 50) (ars := [(.c true 9 2), (.t 3)]) (ac := ac55) Tryz.func55 (by kernel_rfl) (by kernel_rfl) tr55 (by kernel_rfl) ?_
  unfold ac55
  simp -implicitDefEqProofs only [SD, SF, SL, e_nf, reduceCtorEq, implies_true, ↓reduceIte, Nat.reduceEqDiff, Nat.reduceAdd, Nat.reduceMul, Nat.reduceSub, Nat.reduceLeDiff, Nat.reduceLT, Int.reduceLT, Int.reduceLE, Int.reduceEq, Int.reduceToNat, Int.reduceAdd, Int.reduceSub, Int.reduceNeg, Int.reduceBEq, Int.reduceBNe, Nat.reduceBEq, Int.cast_ofNat_Int, decide_true, decide_false, ne_eq, eq_self_iff_true, beq_eq_false_iff_ne, bne_iff_ne, List.replicate]
  refine loop_q (X := List Ev × List Ev × (List UInt8 × Bool)) (fun n x => es = x.1 ++ x.2.1 ∧ n = x.2.1.length ∧ (creL es = (if x.2.2.2 = true then x.2.2.1 else creL x.2.1) ∧ (x.2.2.2 = false → x.2.2.1 = []))) (fun x => [(6, .int .i64 x.1.length), (4, .str x.2.2.1), (5, .bool x.2.2.2)]) (fun _ => []) [8, 9, 10, 11, 12, 13, 14, 15, 16, 17, 18, 19, 20, 21, 22, 23, 24, 25, 26, 27, 28] []  (es).length ([], es, ([], false)) ⟨rfl, rfl, by first | rfl | assumption | (simp_all [creL]; done) | grind [creL]⟩ ?_ ?_
  · simp -implicitDefEqProofs only [SD, SF, SL, e_nf, reduceCtorEq, implies_true, ↓reduceIte, Nat.reduceEqDiff, Nat.reduceAdd, Nat.reduceMul, Nat.reduceSub, Nat.reduceLeDiff, Nat.reduceLT, Int.reduceLT, Int.reduceLE, Int.reduceEq, Int.reduceToNat, Int.reduceAdd, Int.reduceSub, Int.reduceNeg, Int.reduceBEq, Int.reduceBNe, Nat.reduceBEq, Int.cast_ofNat_Int, decide_true, decide_false, ne_eq, eq_self_iff_true, beq_eq_false_iff_ne, bne_iff_ne, List.replicate, creL] <;> simp
  · rintro n ⟨pre1, rest1, a1⟩ ⟨he1, rfl, hI1⟩
    dsimp only at he1 hI1
    cases rest1 with
    | nil =>
      obtain rfl : es = pre1 := by simpa using he1
      clear he1
      have hlt1 : ¬ (((es).length : Int) < ((es).length : Int)) := Int.lt_irrefl _
      iterate 30 (all_goals (try (first
        | (with_reducible refine ite_in (fun _ => ?_) (fun _ => ?_))
        | (with_reducible refine ⟨fun _ => ?_, fun _ => ?_⟩)
        | (with_reducible refine And.intro ?_ ?_)
        | (with_reducible intro _)
        | (with_reducible exact is_in _)
        | (simp -implicitDefEqProofs only [SD, SF, SL, e_nf, reduceCtorEq, implies_true, ↓reduceIte, Nat.reduceEqDiff, Nat.reduceAdd, Nat.reduceMul, Nat.reduceSub, Nat.reduceLeDiff, Nat.reduceLT, Int.reduceLT, Int.reduceLE, Int.reduceEq, Int.reduceToNat, Int.reduceAdd, Int.reduceSub, Int.reduceNeg, Int.reduceBEq, Int.reduceBNe, Nat.reduceBEq, Int.cast_ofNat_Int, decide_true, decide_false, ne_eq, eq_self_iff_true, beq_eq_false_iff_ne, bne_iff_ne, List.replicate, creL, *]))))
      have hc : creatorL es = a1.1 := by
        rw [← creL_eq]
        rcases a1 with ⟨c0, _ | _⟩ <;> simp_all [creL]
      clear hI1
      refine loop_q (X := List Ev × List Ev × Unit) (fun n x => es = x.1 ++ x.2.1 ∧ n = x.2.1.length ∧ (findL es 3 = findL x.2.1 3)) (fun x => [(7, .int .i64 x.1.length)]) (fun _ => []) [3, 29, 30, 31, 32, 33, 34, 35, 36, 37, 38, 39, 40, 41, 42, 43, 44, 45, 46, 47] []  (es).length ([], es, ()) ⟨rfl, rfl, by first | rfl | assumption | (simp_all [findL]; done) | grind [findL]⟩ ?_ ?_
      · simp -implicitDefEqProofs only [SD, SF, SL, e_nf, reduceCtorEq, implies_true, ↓reduceIte, Nat.reduceEqDiff, Nat.reduceAdd, Nat.reduceMul, Nat.reduceSub, Nat.reduceLeDiff, Nat.reduceLT, Int.reduceLT, Int.reduceLE, Int.reduceEq, Int.reduceToNat, Int.reduceAdd, Int.reduceSub, Int.reduceNeg, Int.reduceBEq, Int.reduceBNe, Nat.reduceBEq, Int.cast_ofNat_Int, decide_true, decide_false, ne_eq, eq_self_iff_true, beq_eq_false_iff_ne, bne_iff_ne, List.replicate, findL, encLv] <;> simp
      · rintro n ⟨pre2, rest2, a2⟩ ⟨he2, rfl, hI2⟩
        dsimp only at he2 hI2
        cases rest2 with
        | nil =>
          obtain rfl : es = pre2 := by simpa using he2
          clear he2
          have hlt2 : ¬ (((es).length : Int) < ((es).length : Int)) := Int.lt_irrefl _
          iterate 30 (all_goals (try (first
            | ((with_reducible refine of_kSpec ?_); refine call_fz (spec80 _) rfl ?_)
            | (with_reducible refine ite_in (fun _ => ?_) (fun _ => ?_))
            | (with_reducible refine ⟨fun _ => ?_, fun _ => ?_⟩)
            | (with_reducible refine And.intro ?_ ?_)
            | (with_reducible intro _)
            | (with_reducible exact is_in _)
            | (simp -implicitDefEqProofs only [SD, SF, SL, e_nf, reduceCtorEq, implies_true, ↓reduceIte, Nat.reduceEqDiff, Nat.reduceAdd, Nat.reduceMul, Nat.reduceSub, Nat.reduceLeDiff, Nat.reduceLT, Int.reduceLT, Int.reduceLE, Int.reduceEq, Int.reduceToNat, Int.reduceAdd, Int.reduceSub, Int.reduceNeg, Int.reduceBEq, Int.reduceBNe, Nat.reduceBEq, Int.cast_ofNat_Int, decide_true, decide_false, ne_eq, eq_self_iff_true, beq_eq_false_iff_ne, bne_iff_ne, List.replicate, findL, encLv, *]))))
          all_goals (simp_all [levelsL, findL, encLv])

        | cons x2 rest2 =>
          have hlt2 := cut_lt he2
          have hx2 := cutD encEv he2
          simp only [encEv] at hx2
          simp -implicitDefEqProofs only [SD, SF, SL, e_nf, reduceCtorEq, implies_true, ↓reduceIte, Nat.reduceEqDiff, Nat.reduceAdd, Nat.reduceMul, Nat.reduceSub, Nat.reduceLeDiff, Nat.reduceLT, Int.reduceLT, Int.reduceLE, Int.reduceEq, Int.reduceToNat, Int.reduceAdd, Int.reduceSub, Int.reduceNeg, Int.reduceBEq, Int.reduceBNe, Nat.reduceBEq, Int.cast_ofNat_Int, decide_true, decide_false, ne_eq, eq_self_iff_true, beq_eq_false_iff_ne, bne_iff_ne, List.replicate, findL, encLv, hlt2]
          intro hl
          have hw2 := wrap_len (n := pre2.length) (m := (es).length) (cut_lt' he2) (by simpa using hl)
          replace he2 := Hd.mk he2
          iterate 30 (all_goals (try (first
            | ((with_reducible refine back_in rest2.length [3, 29, 30, 31, 32, 33, 34, 35, 36, 37, 38, 39, 40, 41, 42, 43, 44, 45, 46, 47] [] (pre2 ++ [x2], rest2, a2) ?_ ⟨?_, ?_, ?_⟩ ?_)
               · simp
               · exact cut_snoc he2.out
               · rfl
               · first | rfl | assumption | (simp_all [findL]; done) | grind [findL]
               · first | (simp -implicitDefEqProofs only [SD, SF, SL, e_nf, reduceCtorEq, implies_true, ↓reduceIte, Nat.reduceEqDiff, Nat.reduceAdd, Nat.reduceMul, Nat.reduceSub, Nat.reduceLeDiff, Nat.reduceLT, Int.reduceLT, Int.reduceLE, Int.reduceEq, Int.reduceToNat, Int.reduceAdd, Int.reduceSub, Int.reduceNeg, Int.reduceBEq, Int.reduceBNe, Nat.reduceBEq, Int.cast_ofNat_Int, decide_true, decide_false, ne_eq, eq_self_iff_true, beq_eq_false_iff_ne, bne_iff_ne, List.replicate, findL, encLv] <;> simp <;> done) | (simp -implicitDefEqProofs only [SD, SF, SL, e_nf, reduceCtorEq, implies_true, ↓reduceIte, Nat.reduceEqDiff, Nat.reduceAdd, Nat.reduceMul, Nat.reduceSub, Nat.reduceLeDiff, Nat.reduceLT, Int.reduceLT, Int.reduceLE, Int.reduceEq, Int.reduceToNat, Int.reduceAdd, Int.reduceSub, Int.reduceNeg, Int.reduceBEq, Int.reduceBNe, Nat.reduceBEq, Int.cast_ofNat_Int, decide_true, decide_false, ne_eq, eq_self_iff_true, beq_eq_false_iff_ne, bne_iff_ne, List.replicate, findL, encLv, *] <;> simp_all <;> done))
            | ((with_reducible refine of_kSpec ?_); refine call_fz (spec80 _) rfl ?_)
            | (with_reducible refine ite_in (fun _ => ?_) (fun _ => ?_))
            | (with_reducible refine ⟨fun _ => ?_, fun _ => ?_⟩)
            | (with_reducible refine And.intro ?_ ?_)
            | (with_reducible intro _)
            | (with_reducible exact is_in _)
            | (simp -implicitDefEqProofs only [SD, SF, SL, e_nf, reduceCtorEq, implies_true, ↓reduceIte, Nat.reduceEqDiff, Nat.reduceAdd, Nat.reduceMul, Nat.reduceSub, Nat.reduceLeDiff, Nat.reduceLT, Int.reduceLT, Int.reduceLE, Int.reduceEq, Int.reduceToNat, Int.reduceAdd, Int.reduceSub, Int.reduceNeg, Int.reduceBEq, Int.reduceBNe, Nat.reduceBEq, Int.cast_ofNat_Int, decide_true, decide_false, ne_eq, eq_self_iff_true, beq_eq_false_iff_ne, bne_iff_ne, List.replicate, findL, encLv, *]))))
          all_goals (simp_all [levelsL, findL, encLv])
    | cons x1 rest1 =>
      have hlt1 := cut_lt he1
      have hx1 := cutD encEv he1
      simp only [encEv] at hx1
      simp -implicitDefEqProofs only [SD, SF, SL, e_nf, reduceCtorEq, implies_true, ↓reduceIte, Nat.reduceEqDiff, Nat.reduceAdd, Nat.reduceMul, Nat.reduceSub, Nat.reduceLeDiff, Nat.reduceLT, Int.reduceLT, Int.reduceLE, Int.reduceEq, Int.reduceToNat, Int.reduceAdd, Int.reduceSub, Int.reduceNeg, Int.reduceBEq, Int.reduceBNe, Nat.reduceBEq, Int.cast_ofNat_Int, decide_true, decide_false, ne_eq, eq_self_iff_true, beq_eq_false_iff_ne, bne_iff_ne, List.replicate, creL, hlt1]
      intro hl
      have hw1 := wrap_len (n := pre1.length) (m := (es).length) (cut_lt' he1) (by simpa using hl)
      replace he1 := Hd.mk he1
      cases ha : a1.2
      all_goals (simp -implicitDefEqProofs only [SD, SF, SL, e_nf, reduceCtorEq, implies_true, ↓reduceIte, Nat.reduceEqDiff, Nat.reduceAdd, Nat.reduceMul, Nat.reduceSub, Nat.reduceLeDiff, Nat.reduceLT, Int.reduceLT, Int.reduceLE, Int.reduceEq, Int.reduceToNat, Int.reduceAdd, Int.reduceSub, Int.reduceNeg, Int.reduceBEq, Int.reduceBNe, Nat.reduceBEq, Int.cast_ofNat_Int, decide_true, decide_false, ne_eq, eq_self_iff_true, beq_eq_false_iff_ne, bne_iff_ne, List.replicate, *])
      iterate 30 (all_goals (try (first
        | ((with_reducible refine back_in rest1.length [8, 9, 10, 11, 12, 13, 14, 15, 16, 17, 18, 19, 20, 21, 22, 23, 24, 25, 26, 27, 28] [] (pre1 ++ [x1], rest1, a1) ?_ ⟨?_, ?_, ?_⟩ ?_)
           · simp
           · exact cut_snoc he1.out
           · rfl
           · first | rfl | assumption | (simp_all [creL]; done) | grind [creL]
           · first | (simp -implicitDefEqProofs only [SD, SF, SL, e_nf, reduceCtorEq, implies_true, ↓reduceIte, Nat.reduceEqDiff, Nat.reduceAdd, Nat.reduceMul, Nat.reduceSub, Nat.reduceLeDiff, Nat.reduceLT, Int.reduceLT, Int.reduceLE, Int.reduceEq, Int.reduceToNat, Int.reduceAdd, Int.reduceSub, Int.reduceNeg, Int.reduceBEq, Int.reduceBNe, Nat.reduceBEq, Int.cast_ofNat_Int, decide_true, decide_false, ne_eq, eq_self_iff_true, beq_eq_false_iff_ne, bne_iff_ne, List.replicate, creL] <;> simp <;> done) | (simp -implicitDefEqProofs only [SD, SF, SL, e_nf, reduceCtorEq, implies_true, ↓reduceIte, Nat.reduceEqDiff, Nat.reduceAdd, Nat.reduceMul, Nat.reduceSub, Nat.reduceLeDiff, Nat.reduceLT, Int.reduceLT, Int.reduceLE, Int.reduceEq, Int.reduceToNat, Int.reduceAdd, Int.reduceSub, Int.reduceNeg, Int.reduceBEq, Int.reduceBNe, Nat.reduceBEq, Int.cast_ofNat_Int, decide_true, decide_false, ne_eq, eq_self_iff_true, beq_eq_false_iff_ne, bne_iff_ne, List.replicate, creL, *] <;> simp_all <;> done))
        | ((with_reducible refine back_in rest1.length [8, 9, 10, 11, 12, 13, 14, 15, 16, 17, 18, 19, 20, 21, 22, 23, 24, 25, 26, 27, 28] [] (pre1 ++ [x1], rest1, (x1.sender, true)) ?_ ⟨?_, ?_, ?_⟩ ?_)
           · simp
           · exact cut_snoc he1.out
           · rfl
           · first | rfl | assumption | (simp_all [creL]; done) | grind [creL]
           · first | (simp -implicitDefEqProofs only [SD, SF, SL, e_nf, reduceCtorEq, implies_true, ↓reduceIte, Nat.reduceEqDiff, Nat.reduceAdd, Nat.reduceMul, Nat.reduceSub, Nat.reduceLeDiff, Nat.reduceLT, Int.reduceLT, Int.reduceLE, Int.reduceEq, Int.reduceToNat, Int.reduceAdd, Int.reduceSub, Int.reduceNeg, Int.reduceBEq, Int.reduceBNe, Nat.reduceBEq, Int.cast_ofNat_Int, decide_true, decide_false, ne_eq, eq_self_iff_true, beq_eq_false_iff_ne, bne_iff_ne, List.replicate, creL] <;> simp <;> done) | (simp -implicitDefEqProofs only [SD, SF, SL, e_nf, reduceCtorEq, implies_true, ↓reduceIte, Nat.reduceEqDiff, Nat.reduceAdd, Nat.reduceMul, Nat.reduceSub, Nat.reduceLeDiff, Nat.reduceLT, Int.reduceLT, Int.reduceLE, Int.reduceEq, Int.reduceToNat, Int.reduceAdd, Int.reduceSub, Int.reduceNeg, Int.reduceBEq, Int.reduceBNe, Nat.reduceBEq, Int.cast_ofNat_Int, decide_true, decide_false, ne_eq, eq_self_iff_true, beq_eq_false_iff_ne, bne_iff_ne, List.replicate, creL, *] <;> simp_all <;> done))
        | (with_reducible refine ite_in (fun _ => ?_) (fun _ => ?_))
        | (with_reducible refine ⟨fun _ => ?_, fun _ => ?_⟩)
        | (with_reducible refine And.intro ?_ ?_)
        | (with_reducible intro _)
        | (with_reducible exact is_in _)
        | (simp -implicitDefEqProofs only [SD, SF, SL, e_nf, reduceCtorEq, implies_true, ↓reduceIte, Nat.reduceEqDiff, Nat.reduceAdd, Nat.reduceMul, Nat.reduceSub, Nat.reduceLeDiff, Nat.reduceLT, Int.reduceLT, Int.reduceLE, Int.reduceEq, Int.reduceToNat, Int.reduceAdd, Int.reduceSub, Int.reduceNeg, Int.reduceBEq, Int.reduceBNe, Nat.reduceBEq, Int.cast_ofNat_Int, decide_true, decide_false, ne_eq, eq_self_iff_true, beq_eq_false_iff_ne, bne_iff_ne, List.replicate, creL, *]))))
      have hc : creatorL es = a1.1 := by
        rw [← creL_eq]
        simp_all
      clear hI1 hlt1 hx1 hw1 ha
      refine loop_q (X := List Ev × List Ev × Unit) (fun n x => es = x.1 ++ x.2.1 ∧ n = x.2.1.length ∧ (findL es 3 = findL x.2.1 3)) (fun x => [(7, .int .i64 x.1.length)]) (fun _ => []) [3, 29, 30, 31, 32, 33, 34, 35, 36, 37, 38, 39, 40, 41, 42, 43, 44, 45, 46, 47] []  (es).length ([], es, ()) ⟨rfl, rfl, by first | rfl | assumption | (simp_all [findL]; done) | grind [findL]⟩ ?_ ?_
      · simp -implicitDefEqProofs only [SD, SF, SL, e_nf, reduceCtorEq, implies_true, ↓reduceIte, Nat.reduceEqDiff, Nat.reduceAdd, Nat.reduceMul, Nat.reduceSub, Nat.reduceLeDiff, Nat.reduceLT, Int.reduceLT, Int.reduceLE, Int.reduceEq, Int.reduceToNat, Int.reduceAdd, Int.reduceSub, Int.reduceNeg, Int.reduceBEq, Int.reduceBNe, Nat.reduceBEq, Int.cast_ofNat_Int, decide_true, decide_false, ne_eq, eq_self_iff_true, beq_eq_false_iff_ne, bne_iff_ne, List.replicate, findL, encLv] <;> simp
      · rintro n ⟨pre2, rest2, a2⟩ ⟨he2, rfl, hI2⟩
        dsimp only at he2 hI2
        cases rest2 with
        | nil =>
          obtain rfl : es = pre2 := by simpa using he2
          clear he2
          have hlt2 : ¬ (((es).length : Int) < ((es).length : Int)) := Int.lt_irrefl _
          iterate 30 (all_goals (try (first
            | ((with_reducible refine of_kSpec ?_); refine call_fz (spec80 _) rfl ?_)
            | (with_reducible refine ite_in (fun _ => ?_) (fun _ => ?_))
            | (with_reducible refine ⟨fun _ => ?_, fun _ => ?_⟩)
            | (with_reducible refine And.intro ?_ ?_)
            | (with_reducible intro _)
            | (with_reducible exact is_in _)
            | (simp -implicitDefEqProofs only [SD, SF, SL, e_nf, reduceCtorEq, implies_true, ↓reduceIte, Nat.reduceEqDiff, Nat.reduceAdd, Nat.reduceMul, Nat.reduceSub, Nat.reduceLeDiff, Nat.reduceLT, Int.reduceLT, Int.reduceLE, Int.reduceEq, Int.reduceToNat, Int.reduceAdd, Int.reduceSub, Int.reduceNeg, Int.reduceBEq, Int.reduceBNe, Nat.reduceBEq, Int.cast_ofNat_Int, decide_true, decide_false, ne_eq, eq_self_iff_true, beq_eq_false_iff_ne, bne_iff_ne, List.replicate, findL, encLv, *]))))
          all_goals (simp_all [levelsL, findL, encLv])

        | cons x2 rest2 =>
          have hlt2 := cut_lt he2
          have hx2 := cutD encEv he2
          simp only [encEv] at hx2
          simp -implicitDefEqProofs only [SD, SF, SL, e_nf, reduceCtorEq, implies_true, ↓reduceIte, Nat.reduceEqDiff, Nat.reduceAdd, Nat.reduceMul, Nat.reduceSub, Nat.reduceLeDiff, Nat.reduceLT, Int.reduceLT, Int.reduceLE, Int.reduceEq, Int.reduceToNat, Int.reduceAdd, Int.reduceSub, Int.reduceNeg, Int.reduceBEq, Int.reduceBNe, Nat.reduceBEq, Int.cast_ofNat_Int, decide_true, decide_false, ne_eq, eq_self_iff_true, beq_eq_false_iff_ne, bne_iff_ne, List.replicate, findL, encLv, hlt2]
          intro hl
          have hw2 := wrap_len (n := pre2.length) (m := (es).length) (cut_lt' he2) (by simpa using hl)
          replace he2 := Hd.mk he2
          iterate 30 (all_goals (try (first
            | ((with_reducible refine back_in rest2.length [3, 29, 30, 31, 32, 33, 34, 35, 36, 37, 38, 39, 40, 41, 42, 43, 44, 45, 46, 47] [] (pre2 ++ [x2], rest2, a2) ?_ ⟨?_, ?_, ?_⟩ ?_)
               · simp
               · exact cut_snoc he2.out
               · rfl
               · first | rfl | assumption | (simp_all [findL]; done) | grind [findL]
               · first | (simp -implicitDefEqProofs only [SD, SF, SL, e_nf, reduceCtorEq, implies_true, ↓reduceIte, Nat.reduceEqDiff, Nat.reduceAdd, Nat.reduceMul, Nat.reduceSub, Nat.reduceLeDiff, Nat.reduceLT, Int.reduceLT, Int.reduceLE, Int.reduceEq, Int.reduceToNat, Int.reduceAdd, Int.reduceSub, Int.reduceNeg, Int.reduceBEq, Int.reduceBNe, Nat.reduceBEq, Int.cast_ofNat_Int, decide_true, decide_false, ne_eq, eq_self_iff_true, beq_eq_false_iff_ne, bne_iff_ne, List.replicate, findL, encLv] <;> simp <;> done) | (simp -implicitDefEqProofs only [SD, SF, SL, e_nf, reduceCtorEq, implies_true, ↓reduceIte, Nat.reduceEqDiff, Nat.reduceAdd, Nat.reduceMul, Nat.reduceSub, Nat.reduceLeDiff, Nat.reduceLT, Int.reduceLT, Int.reduceLE, Int.reduceEq, Int.reduceToNat, Int.reduceAdd, Int.reduceSub, Int.reduceNeg, Int.reduceBEq, Int.reduceBNe, Nat.reduceBEq, Int.cast_ofNat_Int, decide_true, decide_false, ne_eq, eq_self_iff_true, beq_eq_false_iff_ne, bne_iff_ne, List.replicate, findL, encLv, *] <;> simp_all <;> done))
            | ((with_reducible refine of_kSpec ?_); refine call_fz (spec80 _) rfl ?_)
            | (with_reducible refine ite_in (fun _ => ?_) (fun _ => ?_))
            | (with_reducible refine ⟨fun _ => ?_, fun _ => ?_⟩)
            | (with_reducible refine And.intro ?_ ?_)
            | (with_reducible intro _)
            | (with_reducible exact is_in _)
            | (simp -implicitDefEqProofs only [SD, SF, SL, e_nf, reduceCtorEq, implies_true, ↓reduceIte, Nat.reduceEqDiff, Nat.reduceAdd, Nat.reduceMul, Nat.reduceSub, Nat.reduceLeDiff, Nat.reduceLT, Int.reduceLT, Int.reduceLE, Int.reduceEq, Int.reduceToNat, Int.reduceAdd, Int.reduceSub, Int.reduceNeg, Int.reduceBEq, Int.reduceBNe, Nat.reduceBEq, Int.cast_ofNat_Int, decide_true, decide_false, ne_eq, eq_self_iff_true, beq_eq_false_iff_ne, bne_iff_ne, List.replicate, findL, encLv, *]))))
          all_goals (simp_all [levelsL, findL, encLv])

end Go.Proofs.YtcolebkklojccaaGreat.E

namespace Go.Proofs.YtcolebkklojccaaGreat.E
open Go
set_option maxHeartbeats 4000000
set_option maxRecDepth 100000
set_option linter.unusedSimpArgs false
set_option linter.unusedVariables false
attribute [local congr] c_wp c_ops c_op c_opS c_run c_runS c_dt c_seq c_blk c_loop c_S c_put c_bind c_mv c_pick c_nt c_ng c_bin c_binI c_binS c_beq c_B c_eqa c_hd c_cells c_blkK c_box c_vec c_mp c_nck c_mks c_appn c_mkm c_mput c_mlk c_mrm c_take c_ld c_ldF c_cellsK c_st c_fld c_fldv c_ix c_ixp c_ixv c_ixs c_sub c_subs c_len c_lens c_src c_dst c_ow c_app c_ext c_mm c_conv c_str c_isn c_fill c_rows c_boxo c_frz c_frzO c_frzA c_frzV c_spec c_specO c_opsP c_opP c_runP c_specP c_Z c_qretP c_fz c_fn c_gv c_cond c_res1 c_resL c_ret c_qret c_ite c_unr c_nx c_bk c_cut c_is
attribute [local irreducible] dwp
def ac58 : AC := (.seq (.ops [⟨(some 3), none, (.box (.t 0))⟩, ⟨(some 4), none, (.box (.t 1))⟩, ⟨(some 6), none, (.mv (.c (.int .i64 0)))⟩]) (.seq (.ops [⟨(some 15), none, (.ld true 9 (.t 3))⟩, ⟨(some 16), none, (.mv (.t 2))⟩, ⟨(some 17), none, (.call false 56 [(.t 15), (.t 16)])⟩, ⟨(some 7), none, (.mv (.t 17))⟩]) (.seq (.draw (.q false ⟨(some 18), none, (.ld true 9 (.t 3))⟩ (.q false ⟨(some 20), none, (.ld true 9 (.t 4))⟩ (.op ⟨(some 19), none, (.call false 81 [(.t 18)])⟩ (.op ⟨(some 21), none, (.call false 81 [(.t 20)])⟩ (.q false ⟨(some 8), none, (.mv (.t 19))⟩ (.q false ⟨(some 9), none, (.mv (.t 21))⟩ .nil))))))) (.seq (.seq (.ops [⟨(some 10), none, (.mv (.c (.int .i64 0)))⟩]) (.block 0 (.loop (.seq (.seq (.ops [⟨(some 22), none, (.mv (.t 10))⟩, ⟨(some 23), none, (.mv (.t 8))⟩, ⟨(some 24), none, (.len (.t 23))⟩, ⟨(some 25), none, (.bin .lss (.t 22) (.t 24))⟩]) (.cond (.t 25) .skip (.exit 0))) (.seq (.block 1 (.seq (.draw (.q false ⟨(some 28), none, (.mv (.t 8))⟩ (.q false ⟨(some 29), none, (.mv (.t 10))⟩ (.q false ⟨(some 30), none, (.ix 1 (.t 28) (.t 29))⟩ (.q false ⟨(some 31), none, (.ld false 1 (.t 30))⟩ (.q false ⟨(some 32), none, (.mv (.t 9))⟩ (.q false ⟨(some 33), none, (.mv (.t 10))⟩ (.q false ⟨(some 34), none, (.ix 1 (.t 32) (.t 33))⟩ (.q false ⟨(some 35), none, (.ld false 1 (.t 34))⟩ (.q false ⟨(some 36), none, (.mv (.t 7))⟩ (.op ⟨(some 37), none, (.call false 82 [(.t 31), (.t 35), (.t 36)])⟩ (.q false ⟨(some 38), none, (.nt (.t 37))⟩ .nil)))))))))))) (.cond (.t 38) (.seq (.ops [⟨(some 6), none, (.mv (.c (.int .i64 20)))⟩]) .ret) .skip))) (.ops [⟨(some 26), none, (.mv (.t 10))⟩, ⟨(some 27), none, (.bin .add (.t 26) (.c (.int .i64 1)))⟩, ⟨(some 10), none, (.mv (.t 27))⟩])))))) (.seq (.seq (.ops [⟨(some 11), none, (.mv (.c (.int .i64 0)))⟩]) (.block 2 (.loop (.seq (.seq (.ops [⟨(some 39), none, (.mv (.t 11))⟩, ⟨(some 40), none, (.fld 1 (.t 3))⟩, ⟨(some 41), none, (.ld false 1 (.t 40))⟩, ⟨(some 42), none, (.len (.t 41))⟩, ⟨(some 43), none, (.fld 1 (.t 4))⟩, ⟨(some 44), none, (.ld false 1 (.t 43))⟩, ⟨(some 45), none, (.len (.t 44))⟩, ⟨(some 46), none, (.bin .add (.t 42) (.t 45))⟩, ⟨(some 47), none, (.bin .lss (.t 39) (.t 46))⟩]) (.cond (.t 47) .skip (.exit 2))) (.seq (.block 3 (.seq (.ops [⟨(some 12), none, (.mv (.c (.int .i64 0)))⟩]) (.seq (.seq (.ops [⟨(some 50), none, (.mv (.t 11))⟩, ⟨(some 51), none, (.fld 1 (.t 3))⟩, ⟨(some 52), none, (.ld false 1 (.t 51))⟩, ⟨(some 53), none, (.len (.t 52))⟩, ⟨(some 54), none, (.bin .lss (.t 50) (.t 53))⟩]) (.cond (.t 54) (.ops [⟨(some 55), none, (.fld 1 (.t 3))⟩, ⟨(some 56), none, (.ld false 1 (.t 55))⟩, ⟨(some 57), none, (.mv (.t 11))⟩, ⟨(some 58), none, (.ix 2 (.t 56) (.t 57))⟩, ⟨(some 59), none, (.fld 0 (.t 58))⟩, ⟨(some 60), none, (.ld false 1 (.t 59))⟩, ⟨(some 12), none, (.mv (.t 60))⟩]) (.ops [⟨(some 61), none, (.fld 1 (.t 4))⟩, ⟨(some 62), none, (.ld false 1 (.t 61))⟩, ⟨(some 63), none, (.mv (.t 11))⟩, ⟨(some 64), none, (.fld 1 (.t 3))⟩, ⟨(some 65), none, (.ld false 1 (.t 64))⟩, ⟨(some 66), none, (.len (.t 65))⟩, ⟨(some 67), none, (.bin .sub (.t 63) (.t 66))⟩, ⟨(some 68), none, (.ix 2 (.t 62) (.t 67))⟩, ⟨(some 69), none, (.fld 0 (.t 68))⟩, ⟨(some 70), none, (.ld false 1 (.t 69))⟩, ⟨(some 12), none, (.mv (.t 70))⟩]))) (.seq (.draw (.q false ⟨(some 71), none, (.ld true 9 (.t 3))⟩ (.q false ⟨(some 72), none, (.mv (.t 12))⟩ (.q false ⟨(some 74), none, (.ld true 9 (.t 4))⟩ (.q false ⟨(some 75), none, (.mv (.t 12))⟩ (.q false ⟨(some 77), none, (.mv (.t 7))⟩ (.op ⟨(some 73), none, (.call false 57 [(.t 71), (.t 72)])⟩ (.op ⟨(some 76), none, (.call false 57 [(.t 74), (.t 75)])⟩ (.op ⟨(some 78), none, (.call false 82 [(.t 73), (.t 76), (.t 77)])⟩ (.q false ⟨(some 79), none, (.nt (.t 78))⟩ .nil)))))))))) (.cond (.t 79) (.seq (.ops [⟨(some 6), none, (.mv (.c (.int .i64 20)))⟩]) .ret) .skip))))) (.ops [⟨(some 48), none, (.mv (.t 11))⟩, ⟨(some 49), none, (.bin .add (.t 48) (.c (.int .i64 1)))⟩, ⟨(some 11), none, (.mv (.t 49))⟩])))))) (.seq (.seq (.ops [⟨(some 13), none, (.mv (.c (.int .i64 0)))⟩]) (.block 4 (.loop (.seq (.seq (.ops [⟨(some 80), none, (.mv (.t 13))⟩, ⟨(some 81), none, (.fld 0 (.t 3))⟩, ⟨(some 82), none, (.ld false 1 (.t 81))⟩, ⟨(some 83), none, (.len (.t 82))⟩, ⟨(some 84), none, (.bin .lss (.t 80) (.t 83))⟩]) (.cond (.t 84) .skip (.exit 4))) (.seq (.block 5 (.seq (.draw (.q false ⟨(some 87), none, (.ld true 9 (.t 3))⟩ (.q false ⟨(some 88), none, (.ld true 9 (.t 4))⟩ (.q false ⟨(some 89), none, (.fld 0 (.t 3))⟩ (.q false ⟨(some 90), none, (.ld false 1 (.t 89))⟩ (.q false ⟨(some 91), none, (.mv (.t 13))⟩ (.q false ⟨(some 92), none, (.ix 2 (.t 90) (.t 91))⟩ (.q false ⟨(some 93), none, (.fld 0 (.t 92))⟩ (.q false ⟨(some 94), none, (.ld false 1 (.t 93))⟩ (.q false ⟨(some 95), none, (.mv (.t 2))⟩ (.op ⟨(some 96), none, (.call false 83 [(.t 87), (.t 88), (.t 94), (.t 95)])⟩ (.q false ⟨(some 97), none, (.nt (.t 96))⟩ .nil)))))))))))) (.cond (.t 97) (.seq (.ops [⟨(some 6), none, (.mv (.c (.int .i64 20)))⟩]) .ret) .skip))) (.ops [⟨(some 85), none, (.mv (.t 13))⟩, ⟨(some 86), none, (.bin .add (.t 85) (.c (.int .i64 1)))⟩, ⟨(some 13), none, (.mv (.t 86))⟩])))))) (.seq (.seq (.ops [⟨(some 14), none, (.mv (.c (.int .i64 0)))⟩]) (.block 6 (.loop (.seq (.seq (.ops [⟨(some 98), none, (.mv (.t 14))⟩, ⟨(some 99), none, (.fld 0 (.t 4))⟩, ⟨(some 100), none, (.ld false 1 (.t 99))⟩, ⟨(some 101), none, (.len (.t 100))⟩, ⟨(some 102), none, (.bin .lss (.t 98) (.t 101))⟩]) (.cond (.t 102) .skip (.exit 6))) (.seq (.block 7 (.seq (.draw (.q false ⟨(some 105), none, (.ld true 9 (.t 3))⟩ (.q false ⟨(some 106), none, (.ld true 9 (.t 4))⟩ (.q false ⟨(some 107), none, (.fld 0 (.t 4))⟩ (.q false ⟨(some 108), none, (.ld false 1 (.t 107))⟩ (.q false ⟨(some 109), none, (.mv (.t 14))⟩ (.q false ⟨(some 110), none, (.ix 2 (.t 108) (.t 109))⟩ (.q false ⟨(some 111), none, (.fld 0 (.t 110))⟩ (.q false ⟨(some 112), none, (.ld false 1 (.t 111))⟩ (.q false ⟨(some 113), none, (.mv (.t 2))⟩ (.op ⟨(some 114), none, (.call false 83 [(.t 105), (.t 106), (.t 112), (.t 113)])⟩ (.q false ⟨(some 115), none, (.nt (.t 114))⟩ .nil)))))))))))) (.cond (.t 115) (.seq (.ops [⟨(some 6), none, (.mv (.c (.int .i64 20)))⟩]) .ret) .skip))) (.ops [⟨(some 103), none, (.mv (.t 14))⟩, ⟨(some 104), none, (.bin .add (.t 103) (.c (.int .i64 1)))⟩, ⟨(some 14), none, (.mv (.t 104))⟩])))))) (.seq (.ops [⟨(some 6), none, (.mv (.c (.int .i64 0)))⟩]) .ret))))))))
theorem tr58 : Tryz.f58.body.bind (trCode Tryz.prog) = some (strip ac58) := by kernel_rfl
theorem spec58 (old new : Lv) (user : List UInt8) (hk : old.kinds.length ≤ 1000 ∧ new.kinds.length ≤ 1000) : Spec Tryz.prog 58 [.fz (.agg (encLv old)), .fz (.agg (encLv new)), .fz (.str user)] (.fz (.int .i64 (chgR old new user))) := by
  refine spec_at (n := 113) (ars := [(.t 6)]) (ac := ac58) Tryz.func58 (by kernel_rfl) (by kernel_rfl) tr58 (by kernel_rfl) ?_
  unfold ac58
  obtain ⟨hk1, hk2⟩ := hk
  iterate 12 (all_goals (try (first
    | ((with_reducible refine of_kSpec ?_); refine call_fz (spec56 old user) rfl ?_)
    | ((with_reducible refine of_kSpec ?_); refine call_fz (spec81 old) rfl ?_)
    | ((with_reducible refine of_kSpec ?_); refine call_fz (spec81 new) rfl ?_)
    | (with_reducible refine ite_in (fun _ => ?_) (fun _ => ?_))
    | (with_reducible refine ⟨fun _ => ?_, fun _ => ?_⟩)
    | (with_reducible refine And.intro ?_ ?_)
    | (with_reducible intro _)
    | (with_reducible exact is_in _)
    | (simp -implicitDefEqProofs only [SD, SF, SL, e_nf, reduceCtorEq, implies_true, ↓reduceIte, Nat.reduceEqDiff, Nat.reduceAdd, Nat.reduceMul, Nat.reduceSub, Nat.reduceLeDiff, Nat.reduceLT, Int.reduceLT, Int.reduceLE, Int.reduceEq, Int.reduceToNat, Int.reduceAdd, Int.reduceSub, Int.reduceNeg, Int.reduceBEq, Int.reduceBNe, Nat.reduceBEq, Int.cast_ofNat_Int, decide_true, decide_false, ne_eq, eq_self_iff_true, beq_eq_false_iff_ne, bne_iff_ne, List.replicate, encLv, nums, *]))))
  refine loop_u 8 ?_
  iterate 90 (all_goals (try (first
    | (with_reducible refine unr_next ?_)
    | ((with_reducible refine of_kSpec ?_); refine call_fz (spec82 _ _ _) rfl ?_)
    | (with_reducible refine ite_in (fun _ => ?_) (fun _ => ?_))
    | (with_reducible refine ⟨fun _ => ?_, fun _ => ?_⟩)
    | (with_reducible refine And.intro ?_ ?_)
    | (with_reducible intro _)
    | (with_reducible exact is_in _)
    | ((with_reducible refine eq_in ?_); (exact (chgR_N (by simp_all [okNs, userV])).symm); done)
    | (simp -implicitDefEqProofs only [SD, SF, SL, e_nf, reduceCtorEq, implies_true, ↓reduceIte, Nat.reduceEqDiff, Nat.reduceAdd, Nat.reduceMul, Nat.reduceSub, Nat.reduceLeDiff, Nat.reduceLT, Int.reduceLT, Int.reduceLE, Int.reduceEq, Int.reduceToNat, Int.reduceAdd, Int.reduceSub, Int.reduceNeg, Int.reduceBEq, Int.reduceBNe, Nat.reduceBEq, Int.cast_ofNat_Int, decide_true, decide_false, ne_eq, eq_self_iff_true, beq_eq_false_iff_ne, bne_iff_ne, List.replicate, nums, wr_lit, *]))))
  have hN : okNs old new user = true := by simp_all [okNs, userV]
  have hs : IntKind.i64.wrap ((old.kinds.length : Int) + new.kinds.length) = ((old.kinds ++ new.kinds).length : Nat) := by
    rw [List.length_append, Int.natCast_add]
    exact wrap_in (by omega) (by omega)
  refine loop_q (X := List LK × List LK × Unit) (fun n x => (old.kinds ++ new.kinds) = x.1 ++ x.2.1 ∧ n = x.2.1.length ∧ (x.1.all (okK old new user) = true)) (fun x => [(11, .int .i64 x.1.length)]) (fun _ => []) [6, 12, 39, 40, 41, 42, 43, 44, 45, 46, 47, 48, 49, 50, 51, 52, 53, 54, 55, 56, 57, 58, 59, 60, 61, 62, 63, 64, 65, 66, 67, 68, 69, 70, 71, 72, 73, 74, 75, 76, 77, 78, 79] []  ((old.kinds ++ new.kinds)).length ([], (old.kinds ++ new.kinds), ()) ⟨rfl, rfl, by first | rfl | exact all_snoc hI2 (by simp_all [okK, userV])⟩ ?_ ?_
  · simp -implicitDefEqProofs only [SD, SF, SL, e_nf, reduceCtorEq, implies_true, ↓reduceIte, Nat.reduceEqDiff, Nat.reduceAdd, Nat.reduceMul, Nat.reduceSub, Nat.reduceLeDiff, Nat.reduceLT, Int.reduceLT, Int.reduceLE, Int.reduceEq, Int.reduceToNat, Int.reduceAdd, Int.reduceSub, Int.reduceNeg, Int.reduceBEq, Int.reduceBNe, Nat.reduceBEq, Int.cast_ofNat_Int, decide_true, decide_false, ne_eq, eq_self_iff_true, beq_eq_false_iff_ne, bne_iff_ne, List.replicate, encLv, hs] <;> simp
  · rintro n ⟨pre2, rest2, a2⟩ ⟨he2, rfl, hI2⟩
    dsimp only at he2 hI2
    cases rest2 with
    | nil =>
      obtain rfl : (old.kinds ++ new.kinds) = pre2 := by simpa using he2
      clear he2
      have hlt2 : ¬ ((((old.kinds ++ new.kinds)).length : Int) < (((old.kinds ++ new.kinds)).length : Int)) := Int.lt_irrefl _
      iterate 30 (all_goals (try (first
        | ((with_reducible refine of_kSpec ?_); refine call_fz (spec57 old x2.kind) rfl ?_)
        | ((with_reducible refine of_kSpec ?_); refine call_fz (spec57 new x2.kind) rfl ?_)
        | ((with_reducible refine of_kSpec ?_); refine call_fz (spec82 _ _ _) rfl ?_)
        | (with_reducible refine ite_in (fun _ => ?_) (fun _ => ?_))
        | (with_reducible refine ⟨fun _ => ?_, fun _ => ?_⟩)
        | (with_reducible refine And.intro ?_ ?_)
        | (with_reducible intro _)
        | (with_reducible exact is_in _)
        | ((with_reducible refine eq_in ?_); (exact (chgR_K (all_cut he2.out (by simp_all [okK, userV]))).symm); done)
        | (simp -implicitDefEqProofs only [SD, SF, SL, e_nf, reduceCtorEq, implies_true, ↓reduceIte, Nat.reduceEqDiff, Nat.reduceAdd, Nat.reduceMul, Nat.reduceSub, Nat.reduceLeDiff, Nat.reduceLT, Int.reduceLT, Int.reduceLE, Int.reduceEq, Int.reduceToNat, Int.reduceAdd, Int.reduceSub, Int.reduceNeg, Int.reduceBEq, Int.reduceBNe, Nat.reduceBEq, Int.cast_ofNat_Int, decide_true, decide_false, ne_eq, eq_self_iff_true, beq_eq_false_iff_ne, bne_iff_ne, List.replicate, encLv, hs, *]))))
      refine loop_q (X := List LU × List LU × Unit) (fun n x => old.users = x.1 ++ x.2.1 ∧ n = x.2.1.length ∧ (x.1.all (okX old new user) = true)) (fun x => [(13, .int .i64 x.1.length)]) (fun _ => []) [6, 80, 81, 82, 83, 84, 85, 86, 87, 88, 89, 90, 91, 92, 93, 94, 95, 96, 97] []  (old.users).length ([], old.users, ()) ⟨rfl, rfl, by first | rfl | exact all_snoc hI3 (by simp_all [okX])⟩ ?_ ?_
      · simp -implicitDefEqProofs only [SD, SF, SL, e_nf, reduceCtorEq, implies_true, ↓reduceIte, Nat.reduceEqDiff, Nat.reduceAdd, Nat.reduceMul, Nat.reduceSub, Nat.reduceLeDiff, Nat.reduceLT, Int.reduceLT, Int.reduceLE, Int.reduceEq, Int.reduceToNat, Int.reduceAdd, Int.reduceSub, Int.reduceNeg, Int.reduceBEq, Int.reduceBNe, Nat.reduceBEq, Int.cast_ofNat_Int, decide_true, decide_false, ne_eq, eq_self_iff_true, beq_eq_false_iff_ne, bne_iff_ne, List.replicate, encLv] <;> simp
      · rintro n ⟨pre3, rest3, a3⟩ ⟨he3, rfl, hI3⟩
        dsimp only at he3 hI3
        cases rest3 with
        | nil =>
          obtain rfl : old.users = pre3 := by simpa using he3
          clear he3
          have hlt3 : ¬ (((old.users).length : Int) < ((old.users).length : Int)) := Int.lt_irrefl _
          iterate 30 (all_goals (try (first
            | ((with_reducible refine of_kSpec ?_); refine call_fz (spec83 old new x3.user user) rfl ?_)
            | (with_reducible refine ite_in (fun _ => ?_) (fun _ => ?_))
            | (with_reducible refine ⟨fun _ => ?_, fun _ => ?_⟩)
            | (with_reducible refine And.intro ?_ ?_)
            | (with_reducible intro _)
            | (with_reducible exact is_in _)
            | ((with_reducible refine eq_in ?_); (exact (chgR_U1 (all_cut he3.out (by simp_all [okX]))).symm); done)
            | (simp -implicitDefEqProofs only [SD, SF, SL, e_nf, reduceCtorEq, implies_true, ↓reduceIte, Nat.reduceEqDiff, Nat.reduceAdd, Nat.reduceMul, Nat.reduceSub, Nat.reduceLeDiff, Nat.reduceLT, Int.reduceLT, Int.reduceLE, Int.reduceEq, Int.reduceToNat, Int.reduceAdd, Int.reduceSub, Int.reduceNeg, Int.reduceBEq, Int.reduceBNe, Nat.reduceBEq, Int.cast_ofNat_Int, decide_true, decide_false, ne_eq, eq_self_iff_true, beq_eq_false_iff_ne, bne_iff_ne, List.replicate, encLv, *]))))
          refine loop_q (X := List LU × List LU × Unit) (fun n x => new.users = x.1 ++ x.2.1 ∧ n = x.2.1.length ∧ (x.1.all (okX old new user) = true)) (fun x => [(14, .int .i64 x.1.length)]) (fun _ => []) [6, 98, 99, 100, 101, 102, 103, 104, 105, 106, 107, 108, 109, 110, 111, 112, 113, 114, 115] []  (new.users).length ([], new.users, ()) ⟨rfl, rfl, by first | rfl | exact all_snoc hI4 (by simp_all [okX])⟩ ?_ ?_
          · simp -implicitDefEqProofs only [SD, SF, SL, e_nf, reduceCtorEq, implies_true, ↓reduceIte, Nat.reduceEqDiff, Nat.reduceAdd, Nat.reduceMul, Nat.reduceSub, Nat.reduceLeDiff, Nat.reduceLT, Int.reduceLT, Int.reduceLE, Int.reduceEq, Int.reduceToNat, Int.reduceAdd, Int.reduceSub, Int.reduceNeg, Int.reduceBEq, Int.reduceBNe, Nat.reduceBEq, Int.cast_ofNat_Int, decide_true, decide_false, ne_eq, eq_self_iff_true, beq_eq_false_iff_ne, bne_iff_ne, List.replicate, encLv] <;> simp
          · rintro n ⟨pre4, rest4, a4⟩ ⟨he4, rfl, hI4⟩
            dsimp only at he4 hI4
            cases rest4 with
            | nil =>
              obtain rfl : new.users = pre4 := by simpa using he4
              clear he4
              have hlt4 : ¬ (((new.users).length : Int) < ((new.users).length : Int)) := Int.lt_irrefl _
              iterate 30 (all_goals (try (first
                | ((with_reducible refine of_kSpec ?_); refine call_fz (spec83 old new x4.user user) rfl ?_)
                | (with_reducible refine ite_in (fun _ => ?_) (fun _ => ?_))
                | (with_reducible refine ⟨fun _ => ?_, fun _ => ?_⟩)
                | (with_reducible refine And.intro ?_ ?_)
                | (with_reducible intro _)
                | (with_reducible exact is_in _)
                | ((with_reducible refine eq_in ?_); (exact (chgR_U2 (all_cut he4.out (by simp_all [okX]))).symm); done)
                | (simp -implicitDefEqProofs only [SD, SF, SL, e_nf, reduceCtorEq, implies_true, ↓reduceIte, Nat.reduceEqDiff, Nat.reduceAdd, Nat.reduceMul, Nat.reduceSub, Nat.reduceLeDiff, Nat.reduceLT, Int.reduceLT, Int.reduceLE, Int.reduceEq, Int.reduceToNat, Int.reduceAdd, Int.reduceSub, Int.reduceNeg, Int.reduceBEq, Int.reduceBNe, Nat.reduceBEq, Int.cast_ofNat_Int, decide_true, decide_false, ne_eq, eq_self_iff_true, beq_eq_false_iff_ne, bne_iff_ne, List.replicate, encLv, *]))))
              exact (chgR_ok hN (by simp_all) (by simp_all) hI3 hI4).symm
            | cons x4 rest4 =>
              have hlt4 := cut_lt he4
              have hx4 := cutD encLU he4
              simp only [encLU] at hx4
              simp -implicitDefEqProofs only [SD, SF, SL, e_nf, reduceCtorEq, implies_true, ↓reduceIte, Nat.reduceEqDiff, Nat.reduceAdd, Nat.reduceMul, Nat.reduceSub, Nat.reduceLeDiff, Nat.reduceLT, Int.reduceLT, Int.reduceLE, Int.reduceEq, Int.reduceToNat, Int.reduceAdd, Int.reduceSub, Int.reduceNeg, Int.reduceBEq, Int.reduceBNe, Nat.reduceBEq, Int.cast_ofNat_Int, decide_true, decide_false, ne_eq, eq_self_iff_true, beq_eq_false_iff_ne, bne_iff_ne, List.replicate, encLv, hlt4]
              intro hl
              have hw4 := wrap_len (n := pre4.length) (m := (new.users).length) (cut_lt' he4) (by simpa using hl)
              replace he4 := Hd.mk he4
              iterate 30 (all_goals (try (first
                | ((with_reducible refine back_in rest4.length [6, 98, 99, 100, 101, 102, 103, 104, 105, 106, 107, 108, 109, 110, 111, 112, 113, 114, 115] [] (pre4 ++ [x4], rest4, a4) ?_ ⟨?_, ?_, ?_⟩ ?_)
                   · simp
                   · exact cut_snoc he4.out
                   · rfl
                   · first | rfl | exact all_snoc hI4 (by simp_all [okX])
                   · first | (simp -implicitDefEqProofs only [SD, SF, SL, e_nf, reduceCtorEq, implies_true, ↓reduceIte, Nat.reduceEqDiff, Nat.reduceAdd, Nat.reduceMul, Nat.reduceSub, Nat.reduceLeDiff, Nat.reduceLT, Int.reduceLT, Int.reduceLE, Int.reduceEq, Int.reduceToNat, Int.reduceAdd, Int.reduceSub, Int.reduceNeg, Int.reduceBEq, Int.reduceBNe, Nat.reduceBEq, Int.cast_ofNat_Int, decide_true, decide_false, ne_eq, eq_self_iff_true, beq_eq_false_iff_ne, bne_iff_ne, List.replicate, encLv] <;> simp <;> done) | (simp -implicitDefEqProofs only [SD, SF, SL, e_nf, reduceCtorEq, implies_true, ↓reduceIte, Nat.reduceEqDiff, Nat.reduceAdd, Nat.reduceMul, Nat.reduceSub, Nat.reduceLeDiff, Nat.reduceLT, Int.reduceLT, Int.reduceLE, Int.reduceEq, Int.reduceToNat, Int.reduceAdd, Int.reduceSub, Int.reduceNeg, Int.reduceBEq, Int.reduceBNe, Nat.reduceBEq, Int.cast_ofNat_Int, decide_true, decide_false, ne_eq, eq_self_iff_true, beq_eq_false_iff_ne, bne_iff_ne, List.replicate, encLv, *] <;> simp_all <;> done))
                | ((with_reducible refine of_kSpec ?_); refine call_fz (spec83 old new x4.user user) rfl ?_)
                | (with_reducible refine ite_in (fun _ => ?_) (fun _ => ?_))
                | (with_reducible refine ⟨fun _ => ?_, fun _ => ?_⟩)
                | (with_reducible refine And.intro ?_ ?_)
                | (with_reducible intro _)
                | (with_reducible exact is_in _)
                | ((with_reducible refine eq_in ?_); (exact (chgR_U2 (all_cut he4.out (by simp_all [okX]))).symm); done)
                | (simp -implicitDefEqProofs only [SD, SF, SL, e_nf, reduceCtorEq, implies_true, ↓reduceIte, Nat.reduceEqDiff, Nat.reduceAdd, Nat.reduceMul, Nat.reduceSub, Nat.reduceLeDiff, Nat.reduceLT, Int.reduceLT, Int.reduceLE, Int.reduceEq, Int.reduceToNat, Int.reduceAdd, Int.reduceSub, Int.reduceNeg, Int.reduceBEq, Int.reduceBNe, Nat.reduceBEq, Int.cast_ofNat_Int, decide_true, decide_false, ne_eq, eq_self_iff_true, beq_eq_false_iff_ne, bne_iff_ne, List.replicate, encLv, *]))))
        | cons x3 rest3 =>
          have hlt3 := cut_lt he3
          have hx3 := cutD encLU he3
          simp only [encLU] at hx3
          simp -implicitDefEqProofs only [SD, SF, SL, e_nf, reduceCtorEq, implies_true, ↓reduceIte, Nat.reduceEqDiff, Nat.reduceAdd, Nat.reduceMul, Nat.reduceSub, Nat.reduceLeDiff, Nat.reduceLT, Int.reduceLT, Int.reduceLE, Int.reduceEq, Int.reduceToNat, Int.reduceAdd, Int.reduceSub, Int.reduceNeg, Int.reduceBEq, Int.reduceBNe, Nat.reduceBEq, Int.cast_ofNat_Int, decide_true, decide_false, ne_eq, eq_self_iff_true, beq_eq_false_iff_ne, bne_iff_ne, List.replicate, encLv, hlt3]
          intro hl
          have hw3 := wrap_len (n := pre3.length) (m := (old.users).length) (cut_lt' he3) (by simpa using hl)
          replace he3 := Hd.mk he3
          iterate 30 (all_goals (try (first
            | ((with_reducible refine back_in rest3.length [6, 80, 81, 82, 83, 84, 85, 86, 87, 88, 89, 90, 91, 92, 93, 94, 95, 96, 97] [] (pre3 ++ [x3], rest3, a3) ?_ ⟨?_, ?_, ?_⟩ ?_)
               · simp
               · exact cut_snoc he3.out
               · rfl
               · first | rfl | exact all_snoc hI3 (by simp_all [okX])
               · first | (simp -implicitDefEqProofs only [SD, SF, SL, e_nf, reduceCtorEq, implies_true, ↓reduceIte, Nat.reduceEqDiff, Nat.reduceAdd, Nat.reduceMul, Nat.reduceSub, Nat.reduceLeDiff, Nat.reduceLT, Int.reduceLT, Int.reduceLE, Int.reduceEq, Int.reduceToNat, Int.reduceAdd, Int.reduceSub, Int.reduceNeg, Int.reduceBEq, Int.reduceBNe, Nat.reduceBEq, Int.cast_ofNat_Int, decide_true, decide_false, ne_eq, eq_self_iff_true, beq_eq_false_iff_ne, bne_iff_ne, List.replicate, encLv] <;> simp <;> done) | (simp -implicitDefEqProofs only [SD, SF, SL, e_nf, reduceCtorEq, implies_true, ↓reduceIte, Nat.reduceEqDiff, Nat.reduceAdd, Nat.reduceMul, Nat.reduceSub, Nat.reduceLeDiff, Nat.reduceLT, Int.reduceLT, Int.reduceLE, Int.reduceEq, Int.reduceToNat, Int.reduceAdd, Int.reduceSub, Int.reduceNeg, Int.reduceBEq, Int.reduceBNe, Nat.reduceBEq, Int.cast_ofNat_Int, decide_true, decide_false, ne_eq, eq_self_iff_true, beq_eq_false_iff_ne, bne_iff_ne, List.replicate, encLv, *] <;> simp_all <;> done))
            | ((with_reducible refine of_kSpec ?_); refine call_fz (spec83 old new x3.user user) rfl ?_)
            | (with_reducible refine ite_in (fun _ => ?_) (fun _ => ?_))
            | (with_reducible refine ⟨fun _ => ?_, fun _ => ?_⟩)
            | (with_reducible refine And.intro ?_ ?_)
            | (with_reducible intro _)
            | (with_reducible exact is_in _)
            | ((with_reducible refine eq_in ?_); (exact (chgR_U1 (all_cut he3.out (by simp_all [okX]))).symm); done)
            | (simp -implicitDefEqProofs only [SD, SF, SL, e_nf, reduceCtorEq, implies_true, ↓reduceIte, Nat.reduceEqDiff, Nat.reduceAdd, Nat.reduceMul, Nat.reduceSub, Nat.reduceLeDiff, Nat.reduceLT, Int.reduceLT, Int.reduceLE, Int.reduceEq, Int.reduceToNat, Int.reduceAdd, Int.reduceSub, Int.reduceNeg, Int.reduceBEq, Int.reduceBNe, Nat.reduceBEq, Int.cast_ofNat_Int, decide_true, decide_false, ne_eq, eq_self_iff_true, beq_eq_false_iff_ne, bne_iff_ne, List.replicate, encLv, *]))))
    | cons x2 rest2 =>
      have hlt2 := cut_lt he2
      have hx2 := cutD encLK he2
      simp only [encLK] at hx2
      have hw2 := wrap_len (n := pre2.length) (m := ((old.kinds ++ new.kinds)).length) (cut_lt' he2) (by rw [List.length_append]; simp only [maxLen]; omega)
      replace he2 := Hd.mk he2
      have hE : (old.kinds.map encLK ++ new.kinds.map encLK).getD pre2.length [] = encLK x2 := by
        rw [← List.map_append]
        exact cutD encLK he2.out
      have hL := cut_lt' he2.out
      rw [List.length_append] at hL
      have hA : (pre2.length : Int) < old.kinds.length → (old.kinds.map encLK).getD pre2.length [] = [.int .i64 x2.kind, .int .i64 x2.n] := by
        intro hc
        simp only [List.getD_eq_getElem?_getD] at hE ⊢
        rw [List.getElem?_append_left (by simp; omega)] at hE
        exact hE
      have hB : ¬ (pre2.length : Int) < old.kinds.length → (new.kinds.map encLK).getD (pre2.length - old.kinds.length) [] = [.int .i64 x2.kind, .int .i64 x2.n] := by
        intro hc
        simp only [List.getD_eq_getElem?_getD] at hE ⊢
        rw [List.getElem?_append_right (by simp; omega), List.length_map] at hE
        exact hE
      have hC : ¬ (pre2.length : Int) < old.kinds.length → IntKind.i64.wrap ((pre2.length : Int) - old.kinds.length) = ((pre2.length - old.kinds.length : Nat) : Int) := by
        intro hc
        rw [wrap_in (by omega) (by omega)]
        omega
      have hD : ¬ (pre2.length : Int) < old.kinds.length → ((pre2.length - old.kinds.length : Nat) : Int) < new.kinds.length := by
        intro hc
        omega
      clear hE hL hx2
      iterate 30 (all_goals (try (first
        | ((with_reducible refine back_in rest2.length [6, 12, 39, 40, 41, 42, 43, 44, 45, 46, 47, 48, 49, 50, 51, 52, 53, 54, 55, 56, 57, 58, 59, 60, 61, 62, 63, 64, 65, 66, 67, 68, 69, 70, 71, 72, 73, 74, 75, 76, 77, 78, 79] [] (pre2 ++ [x2], rest2, a2) ?_ ⟨?_, ?_, ?_⟩ ?_)
           · simp
           · exact cut_snoc he2.out
           · rfl
           · first | rfl | exact all_snoc hI2 (by simp_all [okK, userV])
           · first | (simp -implicitDefEqProofs only [SD, SF, SL, e_nf, reduceCtorEq, implies_true, ↓reduceIte, Nat.reduceEqDiff, Nat.reduceAdd, Nat.reduceMul, Nat.reduceSub, Nat.reduceLeDiff, Nat.reduceLT, Int.reduceLT, Int.reduceLE, Int.reduceEq, Int.reduceToNat, Int.reduceAdd, Int.reduceSub, Int.reduceNeg, Int.reduceBEq, Int.reduceBNe, Nat.reduceBEq, Int.cast_ofNat_Int, decide_true, decide_false, ne_eq, eq_self_iff_true, beq_eq_false_iff_ne, bne_iff_ne, List.replicate, encLv, hs] <;> simp <;> done) | (simp -implicitDefEqProofs only [SD, SF, SL, e_nf, reduceCtorEq, implies_true, ↓reduceIte, Nat.reduceEqDiff, Nat.reduceAdd, Nat.reduceMul, Nat.reduceSub, Nat.reduceLeDiff, Nat.reduceLT, Int.reduceLT, Int.reduceLE, Int.reduceEq, Int.reduceToNat, Int.reduceAdd, Int.reduceSub, Int.reduceNeg, Int.reduceBEq, Int.reduceBNe, Nat.reduceBEq, Int.cast_ofNat_Int, decide_true, decide_false, ne_eq, eq_self_iff_true, beq_eq_false_iff_ne, bne_iff_ne, List.replicate, encLv, hs, *] <;> simp_all <;> done))
        | ((with_reducible refine of_kSpec ?_); refine call_fz (spec57 old x2.kind) rfl ?_)
        | ((with_reducible refine of_kSpec ?_); refine call_fz (spec57 new x2.kind) rfl ?_)
        | ((with_reducible refine of_kSpec ?_); refine call_fz (spec82 _ _ _) rfl ?_)
        | (with_reducible refine ite_in (fun _ => ?_) (fun _ => ?_))
        | (with_reducible refine ⟨fun _ => ?_, fun _ => ?_⟩)
        | (with_reducible refine And.intro ?_ ?_)
        | (with_reducible intro _)
        | (with_reducible exact is_in _)
        | ((with_reducible refine eq_in ?_); (exact (chgR_K (all_cut he2.out (by simp_all [okK, userV]))).symm); done)
        | (simp -implicitDefEqProofs only [SD, SF, SL, e_nf, reduceCtorEq, implies_true, ↓reduceIte, Nat.reduceEqDiff, Nat.reduceAdd, Nat.reduceMul, Nat.reduceSub, Nat.reduceLeDiff, Nat.reduceLT, Int.reduceLT, Int.reduceLE, Int.reduceEq, Int.reduceToNat, Int.reduceAdd, Int.reduceSub, Int.reduceNeg, Int.reduceBEq, Int.reduceBNe, Nat.reduceBEq, Int.cast_ofNat_Int, decide_true, decide_false, ne_eq, eq_self_iff_true, beq_eq_false_iff_ne, bne_iff_ne, List.replicate, encLv, hs, *]))))

end Go.Proofs.YtcolebkklojccaaGreat.E

namespace Go.Proofs.YtcolebkklojccaaGreat.E
open Go
set_option maxHeartbeats 4000000
set_option maxRecDepth 100000
set_option linter.unusedSimpArgs false
set_option linter.unusedVariables false
attribute [local congr] c_wp c_ops c_op c_opS c_run c_runS c_dt c_seq c_blk c_loop c_S c_put c_bind c_mv c_pick c_nt c_ng c_bin c_binI c_binS c_beq c_B c_eqa c_hd c_cells c_blkK c_box c_vec c_mp c_nck c_mks c_appn c_mkm c_mput c_mlk c_mrm c_take c_ld c_ldF c_cellsK c_st c_fld c_fldv c_ix c_ixp c_ixv c_ixs c_sub c_subs c_len c_lens c_src c_dst c_ow c_app c_ext c_mm c_conv c_str c_isn c_fill c_rows c_boxo c_frz c_frzO c_frzA c_frzV c_spec c_specO c_opsP c_opP c_runP c_specP c_Z c_qretP c_fz c_fn c_gv c_cond c_res1 c_resL c_ret c_qret c_ite c_unr c_nx c_bk c_cut c_is
attribute [local irreducible] dwp
def ac93 : AC := (.seq (.ops [⟨(some 3), none, (.box (.t 0))⟩, ⟨(some 4), none, (.box (.t 1))⟩, ⟨(some 6), none, (.mv (.c (.int .i64 0)))⟩]) (.seq (.ops [⟨(some 23), none, (.ld true 9 (.t 3))⟩, ⟨(some 24), none, (.mv (.t 2))⟩, ⟨(some 25), none, (.call false 91 [(.t 23), (.t 24)])⟩, ⟨(some 7), none, (.alloc [(.int .i64 0)])⟩, ⟨none, none, (.sto 1 (.t 7) (.t 25))⟩]) (.seq (.ops [⟨(some 26), none, (.mkfn 106 [(.t 7)])⟩, ⟨(some 8), none, (.mv (.t 26))⟩]) (.seq (.draw (.q false ⟨(some 27), none, (.ld true 9 (.t 3))⟩ (.q false ⟨(some 29), none, (.ld true 9 (.t 4))⟩ (.alt (.op ⟨(some 28), none, (.call false 107 [(.t 27)])⟩ (.alt (.op ⟨(some 30), none, (.call false 107 [(.t 29)])⟩ (.alt (.op ⟨(some 9), none, (.alloc [(.int .i64 0), (.int .i64 0), (.int .i64 0), (.int .i64 0), (.int .i64 0), (.int .i64 0), (.int .i64 0)])⟩ (.op ⟨(some 10), none, (.alloc [(.int .i64 0), (.int .i64 0), (.int .i64 0), (.int .i64 0), (.int .i64 0), (.int .i64 0), (.int .i64 0)])⟩ (.op ⟨none, none, (.sto 7 (.t 9) (.t 28))⟩ (.op ⟨none, none, (.sto 7 (.t 10) (.t 30))⟩ .nil)))) (.op ⟨(some 10), none, (.alloc [(.int .i64 0), (.int .i64 0), (.int .i64 0), (.int .i64 0), (.int .i64 0), (.int .i64 0), (.int .i64 0)])⟩ (.op ⟨(some 9), none, (.alloc [(.int .i64 0), (.int .i64 0), (.int .i64 0), (.int .i64 0), (.int .i64 0), (.int .i64 0), (.int .i64 0)])⟩ (.op ⟨none, none, (.sto 7 (.t 9) (.t 28))⟩ (.op ⟨none, none, (.sto 7 (.t 10) (.t 30))⟩ .nil)))))) (.alt (.op ⟨(some 9), none, (.alloc [(.int .i64 0), (.int .i64 0), (.int .i64 0), (.int .i64 0), (.int .i64 0), (.int .i64 0), (.int .i64 0)])⟩ (.alt (.op ⟨(some 30), none, (.call false 107 [(.t 29)])⟩ (.op ⟨(some 10), none, (.alloc [(.int .i64 0), (.int .i64 0), (.int .i64 0), (.int .i64 0), (.int .i64 0), (.int .i64 0), (.int .i64 0)])⟩ (.op ⟨none, none, (.sto 7 (.t 9) (.t 28))⟩ (.op ⟨none, none, (.sto 7 (.t 10) (.t 30))⟩ .nil)))) (.op ⟨(some 10), none, (.alloc [(.int .i64 0), (.int .i64 0), (.int .i64 0), (.int .i64 0), (.int .i64 0), (.int .i64 0), (.int .i64 0)])⟩ (.op ⟨(some 30), none, (.call false 107 [(.t 29)])⟩ (.op ⟨none, none, (.sto 7 (.t 9) (.t 28))⟩ (.op ⟨none, none, (.sto 7 (.t 10) (.t 30))⟩ .nil)))))) (.op ⟨(some 10), none, (.alloc [(.int .i64 0), (.int .i64 0), (.int .i64 0), (.int .i64 0), (.int .i64 0), (.int .i64 0), (.int .i64 0)])⟩ (.alt (.op ⟨(some 30), none, (.call false 107 [(.t 29)])⟩ (.op ⟨(some 9), none, (.alloc [(.int .i64 0), (.int .i64 0), (.int .i64 0), (.int .i64 0), (.int .i64 0), (.int .i64 0), (.int .i64 0)])⟩ (.op ⟨none, none, (.sto 7 (.t 9) (.t 28))⟩ (.op ⟨none, none, (.sto 7 (.t 10) (.t 30))⟩ .nil)))) (.op ⟨(some 9), none, (.alloc [(.int .i64 0), (.int .i64 0), (.int .i64 0), (.int .i64 0), (.int .i64 0), (.int .i64 0), (.int .i64 0)])⟩ (.op ⟨(some 30), none, (.call false 107 [(.t 29)])⟩ (.op ⟨none, none, (.sto 7 (.t 9) (.t 28))⟩ (.op ⟨none, none, (.sto 7 (.t 10) (.t 30))⟩ .nil))))))))) (.alt (.op ⟨(some 9), none, (.alloc [(.int .i64 0), (.int .i64 0), (.int .i64 0), (.int .i64 0), (.int .i64 0), (.int .i64 0), (.int .i64 0)])⟩ (.alt (.op ⟨(some 28), none, (.call false 107 [(.t 27)])⟩ (.alt (.op ⟨(some 30), none, (.call false 107 [(.t 29)])⟩ (.op ⟨(some 10), none, (.alloc [(.int .i64 0), (.int .i64 0), (.int .i64 0), (.int .i64 0), (.int .i64 0), (.int .i64 0), (.int .i64 0)])⟩ (.op ⟨none, none, (.sto 7 (.t 9) (.t 28))⟩ (.op ⟨none, none, (.sto 7 (.t 10) (.t 30))⟩ .nil)))) (.op ⟨(some 10), none, (.alloc [(.int .i64 0), (.int .i64 0), (.int .i64 0), (.int .i64 0), (.int .i64 0), (.int .i64 0), (.int .i64 0)])⟩ (.op ⟨(some 30), none, (.call false 107 [(.t 29)])⟩ (.op ⟨none, none, (.sto 7 (.t 9) (.t 28))⟩ (.op ⟨none, none, (.sto 7 (.t 10) (.t 30))⟩ .nil)))))) (.op ⟨(some 10), none, (.alloc [(.int .i64 0), (.int .i64 0), (.int .i64 0), (.int .i64 0), (.int .i64 0), (.int .i64 0), (.int .i64 0)])⟩ (.op ⟨(some 28), none, (.call false 107 [(.t 27)])⟩ (.op ⟨(some 30), none, (.call false 107 [(.t 29)])⟩ (.op ⟨none, none, (.sto 7 (.t 9) (.t 28))⟩ (.op ⟨none, none, (.sto 7 (.t 10) (.t 30))⟩ .nil))))))) (.op ⟨(some 10), none, (.alloc [(.int .i64 0), (.int .i64 0), (.int .i64 0), (.int .i64 0), (.int .i64 0), (.int .i64 0), (.int .i64 0)])⟩ (.alt (.op ⟨(some 28), none, (.call false 107 [(.t 27)])⟩ (.alt (.op ⟨(some 30), none, (.call false 107 [(.t 29)])⟩ (.op ⟨(some 9), none, (.alloc [(.int .i64 0), (.int .i64 0), (.int .i64 0), (.int .i64 0), (.int .i64 0), (.int .i64 0), (.int .i64 0)])⟩ (.op ⟨none, none, (.sto 7 (.t 9) (.t 28))⟩ (.op ⟨none, none, (.sto 7 (.t 10) (.t 30))⟩ .nil)))) (.op ⟨(some 9), none, (.alloc [(.int .i64 0), (.int .i64 0), (.int .i64 0), (.int .i64 0), (.int .i64 0), (.int .i64 0), (.int .i64 0)])⟩ (.op ⟨(some 30), none, (.call false 107 [(.t 29)])⟩ (.op ⟨none, none, (.sto 7 (.t 9) (.t 28))⟩ (.op ⟨none, none, (.sto 7 (.t 10) (.t 30))⟩ .nil)))))) (.op ⟨(some 9), none, (.alloc [(.int .i64 0), (.int .i64 0), (.int .i64 0), (.int .i64 0), (.int .i64 0), (.int .i64 0), (.int .i64 0)])⟩ (.op ⟨(some 28), none, (.call false 107 [(.t 27)])⟩ (.op ⟨(some 30), none, (.call false 107 [(.t 29)])⟩ (.op ⟨none, none, (.sto 7 (.t 9) (.t 28))⟩ (.op ⟨none, none, (.sto 7 (.t 10) (.t 30))⟩ .nil)))))))))))) (.seq (.seq (.ops [⟨(some 31), none, (.mv (.c (.int .i64 0)))⟩]) (.block 0 (.loop (.seq (.ops [⟨(some 32), none, (.bin .lss (.t 31) (.c (.int .i64 7)))⟩]) (.seq (.cond (.t 32) .skip (.exit 0)) (.seq (.block 1 (.seq (.ops [⟨(some 33), none, (.mv (.t 31))⟩, ⟨(some 11), none, (.mv (.t 33))⟩]) (.seq (.draw (.q false ⟨(some 34), none, (.mv (.t 8))⟩ (.q false ⟨(some 35), none, (.mv (.t 11))⟩ (.q false ⟨(some 36), none, (.ixp 7 1 (.t 9) (.t 35))⟩ (.q false ⟨(some 37), none, (.ld false 1 (.t 36))⟩ (.q false ⟨(some 38), none, (.mv (.t 11))⟩ (.q false ⟨(some 39), none, (.ixp 7 1 (.t 10) (.t 38))⟩ (.q false ⟨(some 40), none, (.ld false 1 (.t 39))⟩ (.op ⟨(some 41), none, (.callv (.t 34) [(.t 37), (.t 40)])⟩ .nil))))))))) (.cond (.t 41) (.seq (.ops [⟨(some 6), none, (.mv (.c (.int .i64 20)))⟩]) .ret) .skip)))) (.ops [⟨(some 42), none, (.bin .add (.t 31) (.c (.int .i64 1)))⟩, ⟨(some 31), none, (.mv (.t 42))⟩]))))))) (.seq (.seq (.ops [⟨(some 43), none, (.fld 1 (.t 3))⟩, ⟨(some 44), none, (.ld false 1 (.t 43))⟩, ⟨(some 45), none, (.fld 1 (.t 4))⟩, ⟨(some 46), none, (.ld false 1 (.t 45))⟩, ⟨(some 47), none, (.build [.e0, .e0] [(0, (1, (.t 44))), (1, (1, (.t 46)))])⟩, ⟨(some 48), none, (.mv (.c (.int .i64 0)))⟩]) (.block 2 (.loop (.seq (.ops [⟨(some 49), none, (.bin .lss (.t 48) (.c (.int .i64 2)))⟩]) (.seq (.cond (.t 49) .skip (.exit 2)) (.seq (.block 3 (.seq (.ops [⟨(some 50), none, (.ixv false 2 1 (.t 47) (.t 48))⟩, ⟨(some 13), none, (.mv (.t 50))⟩]) (.seq (.ops [⟨(some 51), none, (.mv (.t 13))⟩, ⟨(some 52), none, (.len (.t 51))⟩, ⟨(some 53), none, (.mv (.c (.int .i64 0)))⟩]) (.block 4 (.loop (.seq (.ops [⟨(some 54), none, (.bin .lss (.t 53) (.t 52))⟩]) (.seq (.cond (.t 54) .skip (.exit 4)) (.seq (.block 5 (.seq (.ops [⟨(some 55), none, (.ix 2 (.t 51) (.t 53))⟩, ⟨(some 56), none, (.ld true 2 (.t 55))⟩, ⟨(some 15), none, (.alloc [(.int .i64 0), (.int .i64 0)])⟩, ⟨none, none, (.sto 2 (.t 15) (.t 56))⟩]) (.seq (.draw (.q false ⟨(some 57), none, (.mv (.t 8))⟩ (.q false ⟨(some 58), none, (.ld true 9 (.t 3))⟩ (.q false ⟨(some 59), none, (.fld 0 (.t 15))⟩ (.q false ⟨(some 60), none, (.ld false 1 (.t 59))⟩ (.q false ⟨(some 62), none, (.ld true 9 (.t 4))⟩ (.q false ⟨(some 63), none, (.fld 0 (.t 15))⟩ (.q false ⟨(some 64), none, (.ld false 1 (.t 63))⟩ (.op ⟨(some 61), none, (.call false 92 [(.t 58), (.t 60)])⟩ (.op ⟨(some 65), none, (.call false 92 [(.t 62), (.t 64)])⟩ (.op ⟨(some 66), none, (.callv (.t 57) [(.t 61), (.t 65)])⟩ .nil))))))))))) (.cond (.t 66) (.seq (.ops [⟨(some 6), none, (.mv (.c (.int .i64 20)))⟩]) .ret) .skip)))) (.ops [⟨(some 67), none, (.bin .add (.t 53) (.c (.int .i64 1)))⟩, ⟨(some 53), none, (.mv (.t 67))⟩]))))))))) (.ops [⟨(some 68), none, (.bin .add (.t 48) (.c (.int .i64 1)))⟩, ⟨(some 48), none, (.mv (.t 68))⟩]))))))) (.seq (.ops [⟨(some 16), none, (.mv (.c (.bool false)))⟩]) (.seq .skip (.seq (.seq (.ops [⟨(some 69), none, (.fld 0 (.t 3))⟩, ⟨(some 70), none, (.ld false 1 (.t 69))⟩, ⟨(some 71), none, (.fld 0 (.t 4))⟩, ⟨(some 72), none, (.ld false 1 (.t 71))⟩, ⟨(some 73), none, (.build [.e0, .e0] [(0, (1, (.t 70))), (1, (1, (.t 72)))])⟩, ⟨(some 74), none, (.mv (.c (.int .i64 0)))⟩]) (.block 6 (.loop (.seq (.ops [⟨(some 75), none, (.bin .lss (.t 74) (.c (.int .i64 2)))⟩]) (.seq (.cond (.t 75) .skip (.exit 6)) (.seq (.block 7 (.seq (.ops [⟨(some 76), none, (.ixv false 2 1 (.t 73) (.t 74))⟩, ⟨(some 18), none, (.mv (.t 76))⟩]) (.seq (.ops [⟨(some 77), none, (.mv (.t 18))⟩, ⟨(some 78), none, (.len (.t 77))⟩, ⟨(some 79), none, (.mv (.c (.int .i64 0)))⟩]) (.block 8 (.loop (.seq (.ops [⟨(some 80), none, (.bin .lss (.t 79) (.t 78))⟩]) (.seq (.cond (.t 80) .skip (.exit 8)) (.seq (.block 9 (.seq (.ops [⟨(some 81), none, (.ix 2 (.t 77) (.t 79))⟩, ⟨(some 82), none, (.ld true 2 (.t 81))⟩, ⟨(some 20), none, (.alloc [(.str []), (.int .i64 0)])⟩, ⟨none, none, (.sto 2 (.t 20) (.t 82))⟩]) (.seq (.draw (.q false ⟨(some 83), none, (.ld true 9 (.t 3))⟩ (.q false ⟨(some 84), none, (.fld 0 (.t 20))⟩ (.q false ⟨(some 85), none, (.ld false 1 (.t 84))⟩ (.q false ⟨(some 87), none, (.ld true 9 (.t 4))⟩ (.q false ⟨(some 88), none, (.fld 0 (.t 20))⟩ (.q false ⟨(some 89), none, (.ld false 1 (.t 88))⟩ (.op ⟨(some 86), none, (.call false 91 [(.t 83), (.t 85)])⟩ (.op ⟨(some 90), none, (.call false 91 [(.t 87), (.t 89)])⟩ (.q false ⟨(some 21), none, (.mv (.t 86))⟩ (.q false ⟨(some 22), none, (.mv (.t 90))⟩ .nil))))))))))) (.seq (.ops [⟨(some 91), none, (.mv (.t 8))⟩, ⟨(some 92), none, (.mv (.t 21))⟩, ⟨(some 93), none, (.mv (.t 22))⟩, ⟨(some 94), none, (.callv (.t 91) [(.t 92), (.t 93)])⟩, ⟨(some 95), none, (.mv (.t 94))⟩, ⟨(some 96), (some (95, false)), (.mv (.t 21))⟩, ⟨(some 97), (some (95, false)), (.mv (.t 22))⟩, ⟨(some 98), (some (95, false)), (.bin .neq (.t 96) (.t 97))⟩, ⟨(some 99), (some (95, false)), (.mv (.t 98))⟩, ⟨(some 100), (some (99, true)), (.fld 0 (.t 20))⟩, ⟨(some 101), (some (99, true)), (.ld false 1 (.t 100))⟩, ⟨(some 102), (some (99, true)), (.mv (.t 2))⟩, ⟨(some 103), (some (99, true)), (.bin .neq (.t 101) (.t 102))⟩, ⟨(some 104), (some (95, false)), (.pick (.t 99) (.t 103) (.c (.bool false)))⟩, ⟨(some 105), (some (95, false)), (.mv (.t 104))⟩, ⟨(some 106), (some (105, true)), (.mv (.t 21))⟩, ⟨(some 107), (some (105, true)), (.ld false 1 (.t 7))⟩, ⟨(some 108), (some (105, true)), (.bin .geq (.t 106) (.t 107))⟩, ⟨(some 109), (some (95, false)), (.pick (.t 105) (.t 108) (.c (.bool false)))⟩, ⟨(some 110), none, (.pick (.t 95) (.c (.bool true)) (.t 109))⟩]) (.cond (.t 110) (.seq (.ops [⟨(some 16), none, (.mv (.c (.bool true)))⟩]) (.exit 6)) .skip))))) (.ops [⟨(some 111), none, (.bin .add (.t 79) (.c (.int .i64 1)))⟩, ⟨(some 79), none, (.mv (.t 111))⟩]))))))))) (.ops [⟨(some 112), none, (.bin .add (.t 74) (.c (.int .i64 1)))⟩, ⟨(some 74), none, (.mv (.t 112))⟩]))))))) (.seq (.seq (.ops [⟨(some 113), none, (.mv (.t 16))⟩]) (.cond (.t 113) (.seq (.ops [⟨(some 6), none, (.mv (.c (.int .i64 20)))⟩]) .ret) .skip)) (.seq (.ops [⟨(some 6), none, (.mv (.c (.int .i64 0)))⟩]) .ret)))))))))))
theorem tr93 : Tryz.f93.body.bind (trCode Tryz.prog) = some (strip ac93) := by kernel_rfl
theorem spec93 (old new : Lv) (user : List UInt8) : Spec Tryz.prog 93 [.fz (.agg (encLv old)), .fz (.agg (encLv new)), .fz (.str user)] (.fz (.int .i64 (chgR old new user))) := by
  refine spec_at (n := 111) (ars := [(.t 6)]) (ac := ac93) Tryz.func93 (by kernel_rfl) (by kernel_rfl) tr93 (by kernel_rfl) ?_
  unfold ac93
  refine seq_is ?S1 ?h1_1 ?h2_1
  case h1_1 =>
      iterate 4 (all_goals (try (first
        | (with_reducible refine ite_in (fun _ => ?_) (fun _ => ?_))
        | (with_reducible refine ⟨fun _ => ?_, fun _ => ?_⟩)
        | (with_reducible refine And.intro ?_ ?_)
        | (with_reducible intro _)
        | (with_reducible exact is_in _)
        | (simp -implicitDefEqProofs only [SD, SF, SL, e_nf, reduceCtorEq, implies_true, ↓reduceIte, Nat.reduceEqDiff, Nat.reduceAdd, Nat.reduceMul, Nat.reduceSub, Nat.reduceLeDiff, Nat.reduceLT, Int.reduceLT, Int.reduceLE, Int.reduceEq, Int.reduceToNat, Int.reduceAdd, Int.reduceSub, Int.reduceNeg, Int.reduceBEq, Int.reduceBNe, Nat.reduceBEq, Int.cast_ofNat_Int, decide_true, decide_false, ne_eq, eq_self_iff_true, beq_eq_false_iff_ne, bne_iff_ne, List.replicate, encLv, *]))))
  refine seq_is ?S2 ?h1_2 ?h2_2
  case h1_2 =>
      iterate 6 (all_goals (try (first
        | ((with_reducible refine of_kSpec ?_); refine call_fz (spec91 old user) rfl ?_)
        | (with_reducible refine ite_in (fun _ => ?_) (fun _ => ?_))
        | (with_reducible refine ⟨fun _ => ?_, fun _ => ?_⟩)
        | (with_reducible refine And.intro ?_ ?_)
        | (with_reducible intro _)
        | (with_reducible exact is_in _)
        | (simp -implicitDefEqProofs only [SD, SF, SL, e_nf, reduceCtorEq, implies_true, ↓reduceIte, Nat.reduceEqDiff, Nat.reduceAdd, Nat.reduceMul, Nat.reduceSub, Nat.reduceLeDiff, Nat.reduceLT, Int.reduceLT, Int.reduceLE, Int.reduceEq, Int.reduceToNat, Int.reduceAdd, Int.reduceSub, Int.reduceNeg, Int.reduceBEq, Int.reduceBNe, Nat.reduceBEq, Int.cast_ofNat_Int, decide_true, decide_false, ne_eq, eq_self_iff_true, beq_eq_false_iff_ne, bne_iff_ne, List.replicate, encLv, *]))))
  refine seq_is ?S3 ?h1_3 ?h2_3
  case h1_3 =>
      iterate 4 (all_goals (try (first
        | (with_reducible refine ite_in (fun _ => ?_) (fun _ => ?_))
        | (with_reducible refine ⟨fun _ => ?_, fun _ => ?_⟩)
        | (with_reducible refine And.intro ?_ ?_)
        | (with_reducible intro _)
        | (with_reducible exact is_in _)
        | (simp -implicitDefEqProofs only [SD, SF, SL, e_nf, reduceCtorEq, implies_true, ↓reduceIte, Nat.reduceEqDiff, Nat.reduceAdd, Nat.reduceMul, Nat.reduceSub, Nat.reduceLeDiff, Nat.reduceLT, Int.reduceLT, Int.reduceLE, Int.reduceEq, Int.reduceToNat, Int.reduceAdd, Int.reduceSub, Int.reduceNeg, Int.reduceBEq, Int.reduceBNe, Nat.reduceBEq, Int.cast_ofNat_Int, decide_true, decide_false, ne_eq, eq_self_iff_true, beq_eq_false_iff_ne, bne_iff_ne, List.replicate, *]))))
  refine seq_is ?S4 ?h1_4 ?h2_4
  case h1_4 =>
      iterate 12 (all_goals (try (first
        | ((with_reducible refine of_kSpec ?_); refine call_fz (spec107 old) rfl ?_)
        | ((with_reducible refine of_kSpec ?_); refine call_fz (spec107 new) rfl ?_)
        | (with_reducible refine ite_in (fun _ => ?_) (fun _ => ?_))
        | (with_reducible refine ⟨fun _ => ?_, fun _ => ?_⟩)
        | (with_reducible refine And.intro ?_ ?_)
        | (with_reducible intro _)
        | (with_reducible exact is_in _)
        | (simp -implicitDefEqProofs only [SD, SF, SL, e_nf, reduceCtorEq, implies_true, ↓reduceIte, Nat.reduceEqDiff, Nat.reduceAdd, Nat.reduceMul, Nat.reduceSub, Nat.reduceLeDiff, Nat.reduceLT, Int.reduceLT, Int.reduceLE, Int.reduceEq, Int.reduceToNat, Int.reduceAdd, Int.reduceSub, Int.reduceNeg, Int.reduceBEq, Int.reduceBNe, Nat.reduceBEq, Int.cast_ofNat_Int, decide_true, decide_false, ne_eq, eq_self_iff_true, beq_eq_false_iff_ne, bne_iff_ne, List.replicate, encLv, nums, *]))))

  iterate 3 (all_goals (try (first
    | (with_reducible refine ite_in (fun _ => ?_) (fun _ => ?_))
    | (with_reducible refine ⟨fun _ => ?_, fun _ => ?_⟩)
    | (with_reducible refine And.intro ?_ ?_)
    | (with_reducible intro _)
    | (with_reducible exact is_in _)
    | (simp -implicitDefEqProofs only [SD, SF, SL, e_nf, reduceCtorEq, implies_true, ↓reduceIte, Nat.reduceEqDiff, Nat.reduceAdd, Nat.reduceMul, Nat.reduceSub, Nat.reduceLeDiff, Nat.reduceLT, Int.reduceLT, Int.reduceLE, Int.reduceEq, Int.reduceToNat, Int.reduceAdd, Int.reduceSub, Int.reduceNeg, Int.reduceBEq, Int.reduceBNe, Nat.reduceBEq, Int.cast_ofNat_Int, decide_true, decide_false, ne_eq, eq_self_iff_true, beq_eq_false_iff_ne, bne_iff_ne, List.replicate, *]))))
  refine loop_u 8 ?_
  iterate 100 (all_goals (try (first
    | (with_reducible refine unr_next ?_)
    | ((with_reducible refine of_kSpec ?_); refine call_fz (spec106 _ _ _) rfl ?_)
    | (with_reducible refine ite_in (fun _ => ?_) (fun _ => ?_))
    | (with_reducible refine ⟨fun _ => ?_, fun _ => ?_⟩)
    | (with_reducible refine And.intro ?_ ?_)
    | (with_reducible intro _)
    | (with_reducible exact is_in _)
    | ((with_reducible refine eq_in ?_); (exact (chgR_N (by simp_all [okNs, userV])).symm); done)
    | (simp -implicitDefEqProofs only [SD, SF, SL, e_nf, reduceCtorEq, implies_true, ↓reduceIte, Nat.reduceEqDiff, Nat.reduceAdd, Nat.reduceMul, Nat.reduceSub, Nat.reduceLeDiff, Nat.reduceLT, Int.reduceLT, Int.reduceLE, Int.reduceEq, Int.reduceToNat, Int.reduceAdd, Int.reduceSub, Int.reduceNeg, Int.reduceBEq, Int.reduceBNe, Nat.reduceBEq, Int.cast_ofNat_Int, decide_true, decide_false, ne_eq, eq_self_iff_true, beq_eq_false_iff_ne, bne_iff_ne, List.replicate, nums, wr_lit, *]))))
  have hN : okNs old new user = true := by simp_all [okNs, userV]
  refine loop_u 3 ?_
  iterate 8 (all_goals (try (first
    | (with_reducible refine ite_in (fun _ => ?_) (fun _ => ?_))
    | (with_reducible refine ⟨fun _ => ?_, fun _ => ?_⟩)
    | (with_reducible refine And.intro ?_ ?_)
    | (with_reducible intro _)
    | (with_reducible exact is_in _)
    | (simp -implicitDefEqProofs only [SD, SF, SL, e_nf, reduceCtorEq, implies_true, ↓reduceIte, Nat.reduceEqDiff, Nat.reduceAdd, Nat.reduceMul, Nat.reduceSub, Nat.reduceLeDiff, Nat.reduceLT, Int.reduceLT, Int.reduceLE, Int.reduceEq, Int.reduceToNat, Int.reduceAdd, Int.reduceSub, Int.reduceNeg, Int.reduceBEq, Int.reduceBNe, Nat.reduceBEq, Int.cast_ofNat_Int, decide_true, decide_false, ne_eq, eq_self_iff_true, beq_eq_false_iff_ne, bne_iff_ne, List.replicate, encLv, wr_lit, *]))))
  rename_i hl1
  refine loop_q (X := List LK × List LK × Unit) (fun n x => old.kinds = x.1 ++ x.2.1 ∧ n = x.2.1.length ∧ (x.1.all (okK old new user) = true)) (fun x => [(53, .int .i64 x.1.length)]) (fun _ => []) [6, 15, 54, 55, 56, 57, 58, 59, 60, 61, 62, 63, 64, 65, 66, 67] [15]  (old.kinds).length ([], old.kinds, ()) ⟨rfl, rfl, by first | rfl | exact all_snoc hI1 (by simp_all [okK, userV])⟩ ?_ ?_
  · simp -implicitDefEqProofs only [SD, SF, SL, e_nf, reduceCtorEq, implies_true, ↓reduceIte, Nat.reduceEqDiff, Nat.reduceAdd, Nat.reduceMul, Nat.reduceSub, Nat.reduceLeDiff, Nat.reduceLT, Int.reduceLT, Int.reduceLE, Int.reduceEq, Int.reduceToNat, Int.reduceAdd, Int.reduceSub, Int.reduceNeg, Int.reduceBEq, Int.reduceBNe, Nat.reduceBEq, Int.cast_ofNat_Int, decide_true, decide_false, ne_eq, eq_self_iff_true, beq_eq_false_iff_ne, bne_iff_ne, List.replicate, encLv, wr_lit] <;> simp
  · rintro n ⟨pre1, rest1, a1⟩ ⟨he1, rfl, hI1⟩
    dsimp only at he1 hI1
    cases rest1 with
    | nil =>
      obtain rfl : old.kinds = pre1 := by simpa using he1
      clear he1
      have hlt1 : ¬ (((old.kinds).length : Int) < ((old.kinds).length : Int)) := Int.lt_irrefl _
      iterate 30 (all_goals (try (first
        | (with_reducible refine unr_next ?_)
        | (with_reducible refine ite_in (fun _ => ?_) (fun _ => ?_))
        | (with_reducible refine ⟨fun _ => ?_, fun _ => ?_⟩)
        | (with_reducible refine And.intro ?_ ?_)
        | (with_reducible intro _)
        | (with_reducible exact is_in _)
        | ((with_reducible refine eq_in ?_); (exact (chgR_K1 (all_cut he1.out (by simp_all [okK, userV]))).symm); done)
        | (simp -implicitDefEqProofs only [SD, SF, SL, e_nf, reduceCtorEq, implies_true, ↓reduceIte, Nat.reduceEqDiff, Nat.reduceAdd, Nat.reduceMul, Nat.reduceSub, Nat.reduceLeDiff, Nat.reduceLT, Int.reduceLT, Int.reduceLE, Int.reduceEq, Int.reduceToNat, Int.reduceAdd, Int.reduceSub, Int.reduceNeg, Int.reduceBEq, Int.reduceBNe, Nat.reduceBEq, Int.cast_ofNat_Int, decide_true, decide_false, ne_eq, eq_self_iff_true, beq_eq_false_iff_ne, bne_iff_ne, List.replicate, encLv, wr_lit, *]))))
      rename_i hl2
      refine loop_q (X := List LK × List LK × Unit) (fun n x => new.kinds = x.1 ++ x.2.1 ∧ n = x.2.1.length ∧ (x.1.all (okK old new user) = true)) (fun x => [(53, .int .i64 x.1.length)]) (fun _ => []) [6, 15, 54, 55, 56, 57, 58, 59, 60, 61, 62, 63, 64, 65, 66, 67] [15]  (new.kinds).length ([], new.kinds, ()) ⟨rfl, rfl, by first | rfl | exact all_snoc hI2 (by simp_all [okK, userV])⟩ ?_ ?_
      · simp -implicitDefEqProofs only [SD, SF, SL, e_nf, reduceCtorEq, implies_true, ↓reduceIte, Nat.reduceEqDiff, Nat.reduceAdd, Nat.reduceMul, Nat.reduceSub, Nat.reduceLeDiff, Nat.reduceLT, Int.reduceLT, Int.reduceLE, Int.reduceEq, Int.reduceToNat, Int.reduceAdd, Int.reduceSub, Int.reduceNeg, Int.reduceBEq, Int.reduceBNe, Nat.reduceBEq, Int.cast_ofNat_Int, decide_true, decide_false, ne_eq, eq_self_iff_true, beq_eq_false_iff_ne, bne_iff_ne, List.replicate, encLv, wr_lit] <;> simp
      · rintro n ⟨pre2, rest2, a2⟩ ⟨he2, rfl, hI2⟩
        dsimp only at he2 hI2
        cases rest2 with
        | nil =>
          obtain rfl : new.kinds = pre2 := by simpa using he2
          clear he2
          have hlt2 : ¬ (((new.kinds).length : Int) < ((new.kinds).length : Int)) := Int.lt_irrefl _
          iterate 30 (all_goals (try (first
            | (with_reducible refine unr_next ?_)
            | (with_reducible refine ite_in (fun _ => ?_) (fun _ => ?_))
            | (with_reducible refine ⟨fun _ => ?_, fun _ => ?_⟩)
            | (with_reducible refine And.intro ?_ ?_)
            | (with_reducible intro _)
            | (with_reducible exact is_in _)
            | ((with_reducible refine eq_in ?_); (exact (chgR_K2 (all_cut he2.out (by simp_all [okK, userV]))).symm); done)
            | (simp -implicitDefEqProofs only [SD, SF, SL, e_nf, reduceCtorEq, implies_true, ↓reduceIte, Nat.reduceEqDiff, Nat.reduceAdd, Nat.reduceMul, Nat.reduceSub, Nat.reduceLeDiff, Nat.reduceLT, Int.reduceLT, Int.reduceLE, Int.reduceEq, Int.reduceToNat, Int.reduceAdd, Int.reduceSub, Int.reduceNeg, Int.reduceBEq, Int.reduceBNe, Nat.reduceBEq, Int.cast_ofNat_Int, decide_true, decide_false, ne_eq, eq_self_iff_true, beq_eq_false_iff_ne, bne_iff_ne, List.replicate, encLv, wr_lit, *]))))
          refine loop_u 3 ?_
          iterate 8 (all_goals (try (first
            | (with_reducible refine ite_in (fun _ => ?_) (fun _ => ?_))
            | (with_reducible refine ⟨fun _ => ?_, fun _ => ?_⟩)
            | (with_reducible refine And.intro ?_ ?_)
            | (with_reducible intro _)
            | (with_reducible exact is_in _)
            | (simp -implicitDefEqProofs only [SD, SF, SL, e_nf, reduceCtorEq, implies_true, ↓reduceIte, Nat.reduceEqDiff, Nat.reduceAdd, Nat.reduceMul, Nat.reduceSub, Nat.reduceLeDiff, Nat.reduceLT, Int.reduceLT, Int.reduceLE, Int.reduceEq, Int.reduceToNat, Int.reduceAdd, Int.reduceSub, Int.reduceNeg, Int.reduceBEq, Int.reduceBNe, Nat.reduceBEq, Int.cast_ofNat_Int, decide_true, decide_false, ne_eq, eq_self_iff_true, beq_eq_false_iff_ne, bne_iff_ne, List.replicate, encLv, wr_lit, *]))))
          rename_i hl3
          refine loop_q (X := List LU × List LU × Unit) (fun n x => old.users = x.1 ++ x.2.1 ∧ n = x.2.1.length ∧ (x.1.all (okX old new user) = true)) (fun x => [(79, .int .i64 x.1.length), (16, .bool false)]) (fun _ => []) [20, 21, 22, 80, 81, 82, 83, 84, 85, 86, 87, 88, 89, 90, 91, 92, 93, 94, 95, 96, 97, 98, 99, 100, 101, 102, 103, 104, 105, 106, 107, 108, 109, 110, 111] [20]  (old.users).length ([], old.users, ()) ⟨rfl, rfl, by first | rfl | exact all_snoc hI3 (by grind [okX, okU, okN, userV])⟩ ?_ ?_
          · simp -implicitDefEqProofs only [SD, SF, SL, e_nf, reduceCtorEq, implies_true, ↓reduceIte, Nat.reduceEqDiff, Nat.reduceAdd, Nat.reduceMul, Nat.reduceSub, Nat.reduceLeDiff, Nat.reduceLT, Int.reduceLT, Int.reduceLE, Int.reduceEq, Int.reduceToNat, Int.reduceAdd, Int.reduceSub, Int.reduceNeg, Int.reduceBEq, Int.reduceBNe, Nat.reduceBEq, Int.cast_ofNat_Int, decide_true, decide_false, ne_eq, eq_self_iff_true, beq_eq_false_iff_ne, bne_iff_ne, List.replicate, encLv, wr_lit] <;> simp
          · rintro n ⟨pre3, rest3, a3⟩ ⟨he3, rfl, hI3⟩
            dsimp only at he3 hI3
            cases rest3 with
            | nil =>
              obtain rfl : old.users = pre3 := by simpa using he3
              clear he3
              have hlt3 : ¬ (((old.users).length : Int) < ((old.users).length : Int)) := Int.lt_irrefl _
              iterate 30 (all_goals (try (first
                | (with_reducible refine unr_next ?_)
                | (with_reducible refine ite_in (fun _ => ?_) (fun _ => ?_))
                | (with_reducible refine ⟨fun _ => ?_, fun _ => ?_⟩)
                | (with_reducible refine And.intro ?_ ?_)
                | (with_reducible intro _)
                | (with_reducible exact is_in _)
                | ((with_reducible refine eq_in ?_); (exact (chgR_U1 (all_cut he3.out (by grind [okX, okU, okN, userV]))).symm); done)
                | (simp -implicitDefEqProofs only [SD, SF, SL, e_nf, reduceCtorEq, implies_true, ↓reduceIte, Nat.reduceEqDiff, Nat.reduceAdd, Nat.reduceMul, Nat.reduceSub, Nat.reduceLeDiff, Nat.reduceLT, Int.reduceLT, Int.reduceLE, Int.reduceEq, Int.reduceToNat, Int.reduceAdd, Int.reduceSub, Int.reduceNeg, Int.reduceBEq, Int.reduceBNe, Nat.reduceBEq, Int.cast_ofNat_Int, decide_true, decide_false, ne_eq, eq_self_iff_true, beq_eq_false_iff_ne, bne_iff_ne, List.replicate, encLv, wr_lit, *]))))
              rename_i hl4
              refine loop_q (X := List LU × List LU × Unit) (fun n x => new.users = x.1 ++ x.2.1 ∧ n = x.2.1.length ∧ (x.1.all (okX old new user) = true)) (fun x => [(79, .int .i64 x.1.length), (16, .bool false)]) (fun _ => []) [20, 21, 22, 80, 81, 82, 83, 84, 85, 86, 87, 88, 89, 90, 91, 92, 93, 94, 95, 96, 97, 98, 99, 100, 101, 102, 103, 104, 105, 106, 107, 108, 109, 110, 111] [20]  (new.users).length ([], new.users, ()) ⟨rfl, rfl, by first | rfl | exact all_snoc hI4 (by grind [okX, okU, okN, userV])⟩ ?_ ?_
              · simp -implicitDefEqProofs only [SD, SF, SL, e_nf, reduceCtorEq, implies_true, ↓reduceIte, Nat.reduceEqDiff, Nat.reduceAdd, Nat.reduceMul, Nat.reduceSub, Nat.reduceLeDiff, Nat.reduceLT, Int.reduceLT, Int.reduceLE, Int.reduceEq, Int.reduceToNat, Int.reduceAdd, Int.reduceSub, Int.reduceNeg, Int.reduceBEq, Int.reduceBNe, Nat.reduceBEq, Int.cast_ofNat_Int, decide_true, decide_false, ne_eq, eq_self_iff_true, beq_eq_false_iff_ne, bne_iff_ne, List.replicate, encLv, wr_lit] <;> simp
              · rintro n ⟨pre4, rest4, a4⟩ ⟨he4, rfl, hI4⟩
                dsimp only at he4 hI4
                cases rest4 with
                | nil =>
                  obtain rfl : new.users = pre4 := by simpa using he4
                  clear he4
                  have hlt4 : ¬ (((new.users).length : Int) < ((new.users).length : Int)) := Int.lt_irrefl _
                  iterate 30 (all_goals (try (first
                    | (with_reducible refine unr_next ?_)
                    | (with_reducible refine ite_in (fun _ => ?_) (fun _ => ?_))
                    | (with_reducible refine ⟨fun _ => ?_, fun _ => ?_⟩)
                    | (with_reducible refine And.intro ?_ ?_)
                    | (with_reducible intro _)
                    | (with_reducible exact is_in _)
                    | ((with_reducible refine eq_in ?_); (exact (chgR_U2 (all_cut he4.out (by grind [okX, okU, okN, userV]))).symm); done)
                    | (simp -implicitDefEqProofs only [SD, SF, SL, e_nf, reduceCtorEq, implies_true, ↓reduceIte, Nat.reduceEqDiff, Nat.reduceAdd, Nat.reduceMul, Nat.reduceSub, Nat.reduceLeDiff, Nat.reduceLT, Int.reduceLT, Int.reduceLE, Int.reduceEq, Int.reduceToNat, Int.reduceAdd, Int.reduceSub, Int.reduceNeg, Int.reduceBEq, Int.reduceBNe, Nat.reduceBEq, Int.cast_ofNat_Int, decide_true, decide_false, ne_eq, eq_self_iff_true, beq_eq_false_iff_ne, bne_iff_ne, List.replicate, encLv, wr_lit, *]))))
                  exact (chgR_ok hN hI1 hI2 hI3 hI4).symm
                | cons x4 rest4 =>
                  have hlt4 := cut_lt he4
                  have hx4 := cutD encLU he4
                  simp only [encLU] at hx4
                  have hw4 := wrap_len (n := pre4.length) (m := (new.users).length) (cut_lt' he4) hl4
                  replace he4 := Hd.mk he4
                  iterate 30 (all_goals (try (first
                    | ((with_reducible refine back_in rest4.length [20, 21, 22, 80, 81, 82, 83, 84, 85, 86, 87, 88, 89, 90, 91, 92, 93, 94, 95, 96, 97, 98, 99, 100, 101, 102, 103, 104, 105, 106, 107, 108, 109, 110, 111] [20] (pre4 ++ [x4], rest4, a4) ?_ ⟨?_, ?_, ?_⟩ ?_)
                       · simp
                       · exact cut_snoc he4.out
                       · rfl
                       · first | rfl | exact all_snoc hI4 (by grind [okX, okU, okN, userV])
                       · first | (simp -implicitDefEqProofs only [SD, SF, SL, e_nf, reduceCtorEq, implies_true, ↓reduceIte, Nat.reduceEqDiff, Nat.reduceAdd, Nat.reduceMul, Nat.reduceSub, Nat.reduceLeDiff, Nat.reduceLT, Int.reduceLT, Int.reduceLE, Int.reduceEq, Int.reduceToNat, Int.reduceAdd, Int.reduceSub, Int.reduceNeg, Int.reduceBEq, Int.reduceBNe, Nat.reduceBEq, Int.cast_ofNat_Int, decide_true, decide_false, ne_eq, eq_self_iff_true, beq_eq_false_iff_ne, bne_iff_ne, List.replicate, encLv, wr_lit] <;> simp <;> done) | (simp -implicitDefEqProofs only [SD, SF, SL, e_nf, reduceCtorEq, implies_true, ↓reduceIte, Nat.reduceEqDiff, Nat.reduceAdd, Nat.reduceMul, Nat.reduceSub, Nat.reduceLeDiff, Nat.reduceLT, Int.reduceLT, Int.reduceLE, Int.reduceEq, Int.reduceToNat, Int.reduceAdd, Int.reduceSub, Int.reduceNeg, Int.reduceBEq, Int.reduceBNe, Nat.reduceBEq, Int.cast_ofNat_Int, decide_true, decide_false, ne_eq, eq_self_iff_true, beq_eq_false_iff_ne, bne_iff_ne, List.replicate, encLv, wr_lit, *] <;> simp_all <;> done))
                    | ((with_reducible refine of_kSpec ?_); refine call_fz (spec91 old x4.user) rfl ?_)
                    | ((with_reducible refine of_kSpec ?_); refine call_fz (spec91 new x4.user) rfl ?_)
                    | ((with_reducible refine of_kSpec ?_); refine call_fz (spec106 _ _ _) rfl ?_)
                    | (with_reducible refine ite_in (fun _ => ?_) (fun _ => ?_))
                    | (with_reducible refine ⟨fun _ => ?_, fun _ => ?_⟩)
                    | (with_reducible refine And.intro ?_ ?_)
                    | (with_reducible intro _)
                    | (with_reducible exact is_in _)
                    | ((with_reducible refine eq_in ?_); (exact (chgR_U2 (all_cut he4.out (by grind [okX, okU, okN, userV]))).symm); done)
                    | (simp -implicitDefEqProofs only [SD, SF, SL, e_nf, reduceCtorEq, implies_true, ↓reduceIte, Nat.reduceEqDiff, Nat.reduceAdd, Nat.reduceMul, Nat.reduceSub, Nat.reduceLeDiff, Nat.reduceLT, Int.reduceLT, Int.reduceLE, Int.reduceEq, Int.reduceToNat, Int.reduceAdd, Int.reduceSub, Int.reduceNeg, Int.reduceBEq, Int.reduceBNe, Nat.reduceBEq, Int.cast_ofNat_Int, decide_true, decide_false, ne_eq, eq_self_iff_true, beq_eq_false_iff_ne, bne_iff_ne, List.replicate, encLv, wr_lit, *]))))
            | cons x3 rest3 =>
              have hlt3 := cut_lt he3
              have hx3 := cutD encLU he3
              simp only [encLU] at hx3
              have hw3 := wrap_len (n := pre3.length) (m := (old.users).length) (cut_lt' he3) hl3
              replace he3 := Hd.mk he3
              iterate 30 (all_goals (try (first
                | ((with_reducible refine back_in rest3.length [20, 21, 22, 80, 81, 82, 83, 84, 85, 86, 87, 88, 89, 90, 91, 92, 93, 94, 95, 96, 97, 98, 99, 100, 101, 102, 103, 104, 105, 106, 107, 108, 109, 110, 111] [20] (pre3 ++ [x3], rest3, a3) ?_ ⟨?_, ?_, ?_⟩ ?_)
                   · simp
                   · exact cut_snoc he3.out
                   · rfl
                   · first | rfl | exact all_snoc hI3 (by grind [okX, okU, okN, userV])
                   · first | (simp -implicitDefEqProofs only [SD, SF, SL, e_nf, reduceCtorEq, implies_true, ↓reduceIte, Nat.reduceEqDiff, Nat.reduceAdd, Nat.reduceMul, Nat.reduceSub, Nat.reduceLeDiff, Nat.reduceLT, Int.reduceLT, Int.reduceLE, Int.reduceEq, Int.reduceToNat, Int.reduceAdd, Int.reduceSub, Int.reduceNeg, Int.reduceBEq, Int.reduceBNe, Nat.reduceBEq, Int.cast_ofNat_Int, decide_true, decide_false, ne_eq, eq_self_iff_true, beq_eq_false_iff_ne, bne_iff_ne, List.replicate, encLv, wr_lit] <;> simp <;> done) | (simp -implicitDefEqProofs only [SD, SF, SL, e_nf, reduceCtorEq, implies_true, ↓reduceIte, Nat.reduceEqDiff, Nat.reduceAdd, Nat.reduceMul, Nat.reduceSub, Nat.reduceLeDiff, Nat.reduceLT, Int.reduceLT, Int.reduceLE, Int.reduceEq, Int.reduceToNat, Int.reduceAdd, Int.reduceSub, Int.reduceNeg, Int.reduceBEq, Int.reduceBNe, Nat.reduceBEq, Int.cast_ofNat_Int, decide_true, decide_false, ne_eq, eq_self_iff_true, beq_eq_false_iff_ne, bne_iff_ne, List.replicate, encLv, wr_lit, *] <;> simp_all <;> done))
                | ((with_reducible refine of_kSpec ?_); refine call_fz (spec91 old x3.user) rfl ?_)
                | ((with_reducible refine of_kSpec ?_); refine call_fz (spec91 new x3.user) rfl ?_)
                | ((with_reducible refine of_kSpec ?_); refine call_fz (spec106 _ _ _) rfl ?_)
                | (with_reducible refine ite_in (fun _ => ?_) (fun _ => ?_))
                | (with_reducible refine ⟨fun _ => ?_, fun _ => ?_⟩)
                | (with_reducible refine And.intro ?_ ?_)
                | (with_reducible intro _)
                | (with_reducible exact is_in _)
                | ((with_reducible refine eq_in ?_); (exact (chgR_U1 (all_cut he3.out (by grind [okX, okU, okN, userV]))).symm); done)
                | (simp -implicitDefEqProofs only [SD, SF, SL, e_nf, reduceCtorEq, implies_true, ↓reduceIte, Nat.reduceEqDiff, Nat.reduceAdd, Nat.reduceMul, Nat.reduceSub, Nat.reduceLeDiff, Nat.reduceLT, Int.reduceLT, Int.reduceLE, Int.reduceEq, Int.reduceToNat, Int.reduceAdd, Int.reduceSub, Int.reduceNeg, Int.reduceBEq, Int.reduceBNe, Nat.reduceBEq, Int.cast_ofNat_Int, decide_true, decide_false, ne_eq, eq_self_iff_true, beq_eq_false_iff_ne, bne_iff_ne, List.replicate, encLv, wr_lit, *]))))
        | cons x2 rest2 =>
          have hlt2 := cut_lt he2
          have hx2 := cutD encLK he2
          simp only [encLK] at hx2
          have hw2 := wrap_len (n := pre2.length) (m := (new.kinds).length) (cut_lt' he2) hl2
          replace he2 := Hd.mk he2
          iterate 30 (all_goals (try (first
            | ((with_reducible refine back_in rest2.length [6, 15, 54, 55, 56, 57, 58, 59, 60, 61, 62, 63, 64, 65, 66, 67] [15] (pre2 ++ [x2], rest2, a2) ?_ ⟨?_, ?_, ?_⟩ ?_)
               · simp
               · exact cut_snoc he2.out
               · rfl
               · first | rfl | exact all_snoc hI2 (by simp_all [okK, userV])
               · first | (simp -implicitDefEqProofs only [SD, SF, SL, e_nf, reduceCtorEq, implies_true, ↓reduceIte, Nat.reduceEqDiff, Nat.reduceAdd, Nat.reduceMul, Nat.reduceSub, Nat.reduceLeDiff, Nat.reduceLT, Int.reduceLT, Int.reduceLE, Int.reduceEq, Int.reduceToNat, Int.reduceAdd, Int.reduceSub, Int.reduceNeg, Int.reduceBEq, Int.reduceBNe, Nat.reduceBEq, Int.cast_ofNat_Int, decide_true, decide_false, ne_eq, eq_self_iff_true, beq_eq_false_iff_ne, bne_iff_ne, List.replicate, encLv, wr_lit] <;> simp <;> done) | (simp -implicitDefEqProofs only [SD, SF, SL, e_nf, reduceCtorEq, implies_true, ↓reduceIte, Nat.reduceEqDiff, Nat.reduceAdd, Nat.reduceMul, Nat.reduceSub, Nat.reduceLeDiff, Nat.reduceLT, Int.reduceLT, Int.reduceLE, Int.reduceEq, Int.reduceToNat, Int.reduceAdd, Int.reduceSub, Int.reduceNeg, Int.reduceBEq, Int.reduceBNe, Nat.reduceBEq, Int.cast_ofNat_Int, decide_true, decide_false, ne_eq, eq_self_iff_true, beq_eq_false_iff_ne, bne_iff_ne, List.replicate, encLv, wr_lit, *] <;> simp_all <;> done))
            | ((with_reducible refine of_kSpec ?_); refine call_fz (spec92 old x2.kind) rfl ?_)
            | ((with_reducible refine of_kSpec ?_); refine call_fz (spec92 new x2.kind) rfl ?_)
            | ((with_reducible refine of_kSpec ?_); refine call_fz (spec106 _ _ _) rfl ?_)
            | (with_reducible refine ite_in (fun _ => ?_) (fun _ => ?_))
            | (with_reducible refine ⟨fun _ => ?_, fun _ => ?_⟩)
            | (with_reducible refine And.intro ?_ ?_)
            | (with_reducible intro _)
            | (with_reducible exact is_in _)
            | ((with_reducible refine eq_in ?_); (exact (chgR_K2 (all_cut he2.out (by simp_all [okK, userV]))).symm); done)
            | (simp -implicitDefEqProofs only [SD, SF, SL, e_nf, reduceCtorEq, implies_true, ↓reduceIte, Nat.reduceEqDiff, Nat.reduceAdd, Nat.reduceMul, Nat.reduceSub, Nat.reduceLeDiff, Nat.reduceLT, Int.reduceLT, Int.reduceLE, Int.reduceEq, Int.reduceToNat, Int.reduceAdd, Int.reduceSub, Int.reduceNeg, Int.reduceBEq, Int.reduceBNe, Nat.reduceBEq, Int.cast_ofNat_Int, decide_true, decide_false, ne_eq, eq_self_iff_true, beq_eq_false_iff_ne, bne_iff_ne, List.replicate, encLv, wr_lit, *]))))
    | cons x1 rest1 =>
      have hlt1 := cut_lt he1
      have hx1 := cutD encLK he1
      simp only [encLK] at hx1
      have hw1 := wrap_len (n := pre1.length) (m := (old.kinds).length) (cut_lt' he1) hl1
      replace he1 := Hd.mk he1
      iterate 30 (all_goals (try (first
        | ((with_reducible refine back_in rest1.length [6, 15, 54, 55, 56, 57, 58, 59, 60, 61, 62, 63, 64, 65, 66, 67] [15] (pre1 ++ [x1], rest1, a1) ?_ ⟨?_, ?_, ?_⟩ ?_)
           · simp
           · exact cut_snoc he1.out
           · rfl
           · first | rfl | exact all_snoc hI1 (by simp_all [okK, userV])
           · first | (simp -implicitDefEqProofs only [SD, SF, SL, e_nf, reduceCtorEq, implies_true, ↓reduceIte, Nat.reduceEqDiff, Nat.reduceAdd, Nat.reduceMul, Nat.reduceSub, Nat.reduceLeDiff, Nat.reduceLT, Int.reduceLT, Int.reduceLE, Int.reduceEq, Int.reduceToNat, Int.reduceAdd, Int.reduceSub, Int.reduceNeg, Int.reduceBEq, Int.reduceBNe, Nat.reduceBEq, Int.cast_ofNat_Int, decide_true, decide_false, ne_eq, eq_self_iff_true, beq_eq_false_iff_ne, bne_iff_ne, List.replicate, encLv, wr_lit] <;> simp <;> done) | (simp -implicitDefEqProofs only [SD, SF, SL, e_nf, reduceCtorEq, implies_true, ↓reduceIte, Nat.reduceEqDiff, Nat.reduceAdd, Nat.reduceMul, Nat.reduceSub, Nat.reduceLeDiff, Nat.reduceLT, Int.reduceLT, Int.reduceLE, Int.reduceEq, Int.reduceToNat, Int.reduceAdd, Int.reduceSub, Int.reduceNeg, Int.reduceBEq, Int.reduceBNe, Nat.reduceBEq, Int.cast_ofNat_Int, decide_true, decide_false, ne_eq, eq_self_iff_true, beq_eq_false_iff_ne, bne_iff_ne, List.replicate, encLv, wr_lit, *] <;> simp_all <;> done))
        | ((with_reducible refine of_kSpec ?_); refine call_fz (spec92 old x1.kind) rfl ?_)
        | ((with_reducible refine of_kSpec ?_); refine call_fz (spec92 new x1.kind) rfl ?_)
        | ((with_reducible refine of_kSpec ?_); refine call_fz (spec106 _ _ _) rfl ?_)
        | (with_reducible refine ite_in (fun _ => ?_) (fun _ => ?_))
        | (with_reducible refine ⟨fun _ => ?_, fun _ => ?_⟩)
        | (with_reducible refine And.intro ?_ ?_)
        | (with_reducible intro _)
        | (with_reducible exact is_in _)
        | ((with_reducible refine eq_in ?_); (exact (chgR_K1 (all_cut he1.out (by simp_all [okK, userV]))).symm); done)
        | (simp -implicitDefEqProofs only [SD, SF, SL, e_nf, reduceCtorEq, implies_true, ↓reduceIte, Nat.reduceEqDiff, Nat.reduceAdd, Nat.reduceMul, Nat.reduceSub, Nat.reduceLeDiff, Nat.reduceLT, Int.reduceLT, Int.reduceLE, Int.reduceEq, Int.reduceToNat, Int.reduceAdd, Int.reduceSub, Int.reduceNeg, Int.reduceBEq, Int.reduceBNe, Nat.reduceBEq, Int.cast_ofNat_Int, decide_true, decide_false, ne_eq, eq_self_iff_true, beq_eq_false_iff_ne, bne_iff_ne, List.replicate, encLv, wr_lit, *]))))

end Go.Proofs.YtcolebkklojccaaGreat.E
