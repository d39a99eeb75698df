/-
  NtC: walks of functions of the program at data level.
-/
import Derived.Test.YtklbfafdioeehaaProg
import Derived.Test.YtklbfafdioeehaaEngZ
import Derived.Test.YtklbfafdioeehaaNtB
import Derived.KernelRfl
set_option linter.unusedVariables false
set_option linter.unusedSimpArgs false
namespace Go.Proofs.Ytklbfafdioeehaa.E
open Go
set_option maxHeartbeats 4000000
set_option maxRecDepth 100000
set_option linter.unusedSimpArgs false
set_option linter.unusedVariables false
attribute [local congr] c_wp c_ops c_op c_opS c_run c_runS c_dt c_seq c_blk c_loop c_S c_put c_bind c_mv c_pick c_nt c_ng c_bin c_binI c_binS c_beq c_B c_eqa c_hd c_cells c_blkK c_box c_vec c_mp c_nck c_mks c_appn c_mkm c_mput c_mlk c_mrm c_take c_ld c_ldF c_cellsK c_st c_fld c_fldv c_ix c_ixp c_ixv c_ixs c_sub c_subs c_len c_lens c_src c_dst c_ow c_app c_ext c_mm c_conv c_str c_isn c_fill c_rows c_boxo c_frz c_frzO c_frzA c_frzV c_spec c_specO c_opsP c_opP c_runP c_specP c_Z c_qretP c_fz c_fn c_gv c_cond c_res1 c_resL c_ret c_qret c_ite c_unr c_nx c_bk c_cut c_is
attribute [local irreducible] dwp

structure Pk where
  frm : List UInt8
  dest : List UInt8
  kind : Int
  n : Int
  room : List UInt8
  ids : List Int
  events : List Ev
  auth : List Ev
  user : List UInt8
  err : Int
def encPk (p : Pk) : List DV := [.str p.frm, .str p.dest, .int .i64 p.kind, .int .i64 p.n, .str p.room, .sl 29 (p.events.map encEv), .sl 1 (p.ids.map encN), .sl 29 (p.auth.map encEv), .str p.user, .int .i64 p.err]
abbrev Lk := List UInt8 × List UInt8
def encLk (x : Lk) : List DV := [.str x.1, .str x.2]
structure Ntw where
  packets : List Pk
  cuts : List Lk
def encNw (n : Ntw) : List DV := [.sl 10 (n.packets.map encPk), .sl 2 (n.cuts.map encLk)]
instance : DecidableEq Pk := fun a b => by
  cases a; cases b; simp only [Pk.mk.injEq]; infer_instance
instance : DecidableEq Ntw := fun a b => by
  cases a; cases b; simp only [Ntw.mk.injEq]; infer_instance
theorem Pk_eq (a b : Pk) : (a = b) = (a.frm = b.frm ∧ a.dest = b.dest ∧ a.kind = b.kind ∧ a.n = b.n ∧ a.room = b.room ∧ a.ids = b.ids ∧ a.events = b.events ∧ a.auth = b.auth ∧ a.user = b.user ∧ a.err = b.err) := by cases a; cases b; simp
theorem Lk_eq (a b : Lk) : (a = b) = (a.1 = b.1 ∧ a.2 = b.2) := by cases a; cases b; simp
def prR (a b : List UInt8) : Lk := if Op.bytesLess b a = true then (b, a) else (a, b)
def isP (a b : List UInt8) (x : Lk) : Bool := decide (x.1 = a ∧ x.2 = b ∨ x.1 = b ∧ x.2 = a)
def gtL (x y : Lk) : Bool := !(Op.bytesLess x.1 y.1 || x.1 == y.1) || (x.1 == y.1 && !(Op.bytesLess x.2 y.2 || x.2 == y.2))
theorem less_irr : ∀ a : List UInt8, Op.bytesLess a a = false
  | [] => rfl
  | a :: x => by simp [Op.bytesLess, less_irr x]
theorem less_anti : ∀ a b : List UInt8, Op.bytesLess a b = true → Op.bytesLess b a = false
  | [], [], h => by simp [Op.bytesLess] at h
  | _ :: _, [], h => by simp [Op.bytesLess] at h
  | [], _ :: _, _ => rfl
  | a :: x, b :: y, h => by
    simp only [Op.bytesLess, Bool.or_eq_true, Bool.and_eq_true, decide_eq_true_eq, beq_iff_eq] at h
    rcases h with h | ⟨rfl, h⟩
    · have h1 : ¬ b < a := by simp only [UInt8.lt_iff_toNat_lt] at *; omega
      have h2 : ¬ b = a := by rintro rfl; simp only [UInt8.lt_iff_toNat_lt] at h; omega
      simp [Op.bytesLess, h1, h2]
    · simp [Op.bytesLess, less_irr, less_anti x y h, UInt8.lt_iff_toNat_lt]
theorem less_tri : ∀ a b : List UInt8, Op.bytesLess a b = true ∨ a = b ∨ Op.bytesLess b a = true
  | [], [] => .inr (.inl rfl)
  | [], _ :: _ => .inl rfl
  | _ :: _, [] => .inr (.inr rfl)
  | a :: x, b :: y => by
    simp only [Op.bytesLess]
    rcases Nat.lt_trichotomy a.toNat b.toNat with h | h | h
    · exact .inl (by simp [UInt8.lt_iff_toNat_lt, h])
    · have e : a = b := UInt8.toNat_inj.1 h
      subst e
      rcases less_tri x y with h | h | h
      · exact .inl (by simp [h])
      · exact .inr (.inl (by rw [h]))
      · exact .inr (.inr (by simp [h]))
    · exact .inr (.inr (by simp [UInt8.lt_iff_toNat_lt, h]))
theorem pr_eq (a b c d : List UInt8) : prR c d = prR a b ↔ (c = a ∧ d = b ∨ c = b ∧ d = a) := by
  unfold prR
  by_cases h1 : Op.bytesLess d c = true <;> by_cases h2 : Op.bytesLess b a = true
  · simp only [h1, h2, if_true, Prod.mk.injEq]
    constructor
    · rintro ⟨rfl, rfl⟩; exact .inl ⟨rfl, rfl⟩
    · rintro (⟨rfl, rfl⟩ | ⟨rfl, rfl⟩)
      · exact ⟨rfl, rfl⟩
      · rw [less_anti _ _ h1] at h2; cases h2
  · simp only [h1, h2, if_true, if_false, Prod.mk.injEq, Bool.false_eq_true]
    constructor
    · rintro ⟨rfl, rfl⟩; exact .inr ⟨rfl, rfl⟩
    · rintro (⟨rfl, rfl⟩ | ⟨rfl, rfl⟩)
      · exact absurd h1 h2
      · exact ⟨rfl, rfl⟩
  · simp only [h1, h2, if_true, if_false, Prod.mk.injEq, Bool.false_eq_true]
    constructor
    · rintro ⟨rfl, rfl⟩; exact .inr ⟨rfl, rfl⟩
    · rintro (⟨rfl, rfl⟩ | ⟨rfl, rfl⟩)
      · exact absurd h2 h1
      · exact ⟨rfl, rfl⟩
  · simp only [h1, h2, if_false, Prod.mk.injEq, Bool.false_eq_true]
    constructor
    · rintro ⟨rfl, rfl⟩; exact .inl ⟨rfl, rfl⟩
    · rintro (⟨rfl, rfl⟩ | ⟨rfl, rfl⟩)
      · exact ⟨rfl, rfl⟩
      · rcases less_tri c d with h | h | h
        · exact absurd h h2
        · exact ⟨h, h.symm⟩
        · exact absurd h h1
/-! maps of pairs -/
abbrev KKp : KK := .ag [.s, .s]
theorem eqK_p (x y : Lk) : eqK KKp (.agg (encLk x)) (.agg (encLk y)) = decide (x = y) := by
  obtain ⟨a, b⟩ := x
  obtain ⟨c, d⟩ := y
  rw [Bool.eq_iff_iff]
  simp [eqK, eqKey, eqPs, eqP, andO, encLk]
def kents (ks : List Lk) : List (DV × DV) := ks.map fun k => (.agg (encLk k), .bool true)
def putK (ks : List Lk) (q : Lk) : List Lk := if q ∈ ks then ks else ks ++ [q]
theorem kput (q : Lk) : ∀ ks : List Lk, mpPut KKp (kents ks) (.agg (encLk q)) (.bool true) = kents (putK ks q)
  | [] => rfl
  | k :: ks => by
    have ih := kput q ks
    simp only [kents, List.map_cons, mpPut, eqK_p, decide_eq_true_eq] at ih ⊢
    by_cases h : q = k
    · subst h
      simp [putK]
    · rw [if_neg h]
      rw [ih]
      simp only [putK, List.mem_cons, h, false_or]
      split <;> simp
theorem krem (q : Lk) : ∀ ks : List Lk, mpRem KKp (kents ks) (.agg (encLk q)) = kents (ks.erase q)
  | [] => rfl
  | k :: ks => by
    have ih := krem q ks
    simp only [kents, List.map_cons, mpRem, eqK_p, decide_eq_true_eq] at ih ⊢
    by_cases h : q = k
    · subst h
      simp
    · rw [if_neg h, ih, List.erase_cons_tail (by simpa using fun e => h e.symm)]
      rfl
theorem klk (q : Lk) : ∀ ks : List Lk, mpLk KKp (kents ks) (.agg (encLk q)) = if q ∈ ks then some (.bool true) else none
  | [] => rfl
  | k :: ks => by
    have ih := klk q ks
    simp only [kents, List.map_cons, mpLk, eqK_p, decide_eq_true_eq] at ih ⊢
    by_cases h : q = k
    · simp [h]
    · rw [if_neg h, ih]
      simp [h]
def keysL (l : List Lk) : List Lk := l.foldl (fun ks x => putK ks (prR x.1 x.2)) []
theorem keysL_snoc (l : List Lk) (x : Lk) : keysL (l ++ [x]) = putK (keysL l) (prR x.1 x.2) := by
  unfold keysL
  rw [List.foldl_append]
  rfl
theorem mem_putK (ks : List Lk) (q k : Lk) : k ∈ putK ks q ↔ k ∈ ks ∨ k = q := by
  unfold putK
  split
  · rename_i h
    constructor
    · exact .inl
    · rintro (h1 | rfl)
      · exact h1
      · exact h
  · simp
theorem nodup_putK {ks : List Lk} (h : ks.Nodup) (q : Lk) : (putK ks q).Nodup := by
  unfold putK
  split
  · exact h
  · rename_i hq
    rw [List.nodup_append]
    refine ⟨h, by simp, ?_⟩
    intro a ha b hb
    simp at hb
    subst hb
    rintro rfl
    exact hq ha
theorem foldK_facts : ∀ (l : List Lk) (ks : List Lk), ks.Nodup → (l.foldl (fun ks x => putK ks (prR x.1 x.2)) ks).Nodup ∧ ∀ k, k ∈ l.foldl (fun ks x => putK ks (prR x.1 x.2)) ks ↔ k ∈ ks ∨ ∃ x ∈ l, prR x.1 x.2 = k
  | [], ks, h => ⟨h, by simp⟩
  | x :: l, ks, h => by
    obtain ⟨h1, h2⟩ := foldK_facts l (putK ks (prR x.1 x.2)) (nodup_putK h _)
    refine ⟨h1, fun k => ?_⟩
    rw [List.foldl_cons, h2, mem_putK]
    constructor
    · rintro ((h3 | h3) | ⟨y, hy, h3⟩)
      · exact .inl h3
      · exact .inr ⟨x, by simp, h3.symm⟩
      · exact .inr ⟨y, by simp [hy], h3⟩
    · rintro (h3 | ⟨y, hy, h3⟩)
      · exact .inl (.inl h3)
      · rcases List.mem_cons.1 hy with rfl | hy
        · exact .inl (.inr h3.symm)
        · exact .inr ⟨y, hy, h3⟩
theorem keysL_nodup (l : List Lk) : (keysL l).Nodup := (foldK_facts l [] (by simp)).1
theorem mem_keysL (l : List Lk) (a b : List UInt8) : prR a b ∈ keysL l ↔ l.any (isP a b) = true := by
  rw [show keysL l = l.foldl (fun ks x => putK ks (prR x.1 x.2)) [] from rfl, (foldK_facts l [] (by simp)).2]
  simp only [List.not_mem_nil, false_or, List.any_eq_true, isP, decide_eq_true_eq, pr_eq]
def openB (l : List Lk) (a b : List UInt8) : Bool := !(l.any (isP a b))
theorem klk_open (l : List Lk) (a b : List UInt8) : mpLk KKp (kents (keysL l)) (.agg (encLk (prR a b))) = if openB l a b = true then none else some (.bool true) := by
  rw [klk]
  simp only [openB, mem_keysL]
  by_cases h : l.any (isP a b) = true <;> simp [h]
theorem knil : kents (keysL []) = [] := rfl
theorem kput' (q : Lk) (ks : List Lk) : mpPut (.ag [.s, .s]) (kents ks) (.agg [.str q.1, .str q.2]) (.bool true) = kents (putK ks q) := kput q ks
theorem krem' (q : Lk) (ks : List Lk) : mpRem (.ag [.s, .s]) (kents ks) (.agg [.str q.1, .str q.2]) = kents (ks.erase q) := krem q ks
theorem klk_open' (l : List Lk) (a b : List UInt8) : mpLk (.ag [.s, .s]) (kents (keysL l)) (.agg [.str (prR a b).1, .str (prR a b).2]) = if openB l a b = true then none else some (.bool true) := klk_open l a b
theorem any_cut {α : Type} {p : α → Bool} {es pre : List α} {x : α} {rest : List α} (h : es = pre ++ x :: rest) (hx : p x = true) : es.any p = true := by
  subst h
  simp [hx]
theorem any_snoc {α : Type} {p : α → Bool} {pre : List α} {x : α} (h : pre.any p = false) (hx : p x = false) : (pre ++ [x]).any p = false := by
  rw [List.any_append, h]
  simp [hx]
def ac28 : AC := (.seq (.ops [⟨(some 4), none, (.alloc [(.str []), (.str [])])⟩]) (.seq (.seq (.ops [⟨(some 5), none, (.mv (.t 1))⟩, ⟨(some 6), none, (.mv (.t 0))⟩, ⟨(some 7), none, (.bin .lss (.t 5) (.t 6))⟩]) (.cond (.t 7) (.seq (.ops [⟨(some 8), none, (.mv (.t 1))⟩, ⟨(some 9), none, (.mv (.t 0))⟩, ⟨(some 10), none, (.build [(.str []), (.str [])] [(0, (1, (.t 8))), (1, (1, (.t 9)))])⟩, ⟨none, none, (.sto 2 (.t 4) (.t 10))⟩]) .ret) .skip)) (.seq (.ops [⟨(some 11), none, (.mv (.t 0))⟩, ⟨(some 12), none, (.mv (.t 1))⟩, ⟨(some 13), none, (.build [(.str []), (.str [])] [(0, (1, (.t 11))), (1, (1, (.t 12)))])⟩, ⟨none, none, (.sto 2 (.t 4) (.t 13))⟩]) .ret)))
theorem tr28 : Try.f28.body.bind (trCode Try.prog) = some (strip ac28) := by kernel_rfl
theorem spec28 (a b : List UInt8) : Spec Try.prog 28 [.fz (.str a), .fz (.str b)] (.fz (.agg (encLk (prR a b)))) := by
  refine spec_at (n := 12) (ars := [(.c true 2 4)]) (ac := ac28) Try.func28 (by kernel_rfl) (by kernel_rfl) tr28 (by kernel_rfl) ?_
  unfold ac28
  iterate 30 (all_goals (try (first
    | (with_reducible refine ite_in (fun _ => ?_) (fun _ => ?_))
    | (with_reducible refine ⟨fun _ => ?_, fun _ => ?_⟩)
    | (with_reducible refine And.intro ?_ ?_)
    | (with_reducible intro _)
    | (with_reducible exact is_in _)
    | (simp -implicitDefEqProofs only [SD, SF, SL, e_nf, reduceCtorEq, implies_true, ↓reduceIte, Nat.reduceEqDiff, Nat.reduceAdd, Nat.reduceMul, Nat.reduceSub, Nat.reduceLeDiff, Nat.reduceLT, Int.reduceLT, Int.reduceLE, Int.reduceEq, Int.reduceToNat, Int.reduceAdd, Int.reduceSub, Int.reduceNeg, Int.reduceBEq, Int.reduceBNe, Nat.reduceBEq, Int.cast_ofNat_Int, decide_true, decide_false, ne_eq, eq_self_iff_true, beq_eq_false_iff_ne, bne_iff_ne, List.replicate, encLk, *]))))
  all_goals (first | (simp_all [prR, encLk]; done))
def ac32 : AC := (.seq (.ops [⟨(some 3), none, (.box (.t 0))⟩, ⟨(some 6), none, (.mv (.c (.bool false)))⟩]) (.seq (.ops [⟨(some 7), none, (.ixp 2 1 (.t 3) (.c (.int .i64 0)))⟩, ⟨(some 8), none, (.ld false 1 (.t 7))⟩, ⟨(some 9), none, (.mv (.t 1))⟩, ⟨(some 10), none, (.bin .eql (.t 8) (.t 9))⟩, ⟨(some 11), none, (.mv (.t 10))⟩, ⟨(some 12), (some (11, true)), (.ixp 2 1 (.t 3) (.c (.int .i64 1)))⟩, ⟨(some 13), (some (11, true)), (.ld false 1 (.t 12))⟩, ⟨(some 14), (some (11, true)), (.mv (.t 2))⟩, ⟨(some 15), (some (11, true)), (.bin .eql (.t 13) (.t 14))⟩, ⟨(some 16), none, (.pick (.t 11) (.t 15) (.c (.bool false)))⟩, ⟨(some 17), none, (.mv (.t 16))⟩, ⟨(some 18), (some (17, false)), (.ixp 2 1 (.t 3) (.c (.int .i64 0)))⟩, ⟨(some 19), (some (17, false)), (.ld false 1 (.t 18))⟩, ⟨(some 20), (some (17, false)), (.mv (.t 2))⟩, ⟨(some 21), (some (17, false)), (.bin .eql (.t 19) (.t 20))⟩, ⟨(some 22), (some (17, false)), (.mv (.t 21))⟩, ⟨(some 23), (some (22, true)), (.ixp 2 1 (.t 3) (.c (.int .i64 1)))⟩, ⟨(some 24), (some (22, true)), (.ld false 1 (.t 23))⟩, ⟨(some 25), (some (22, true)), (.mv (.t 1))⟩, ⟨(some 26), (some (22, true)), (.bin .eql (.t 24) (.t 25))⟩, ⟨(some 27), (some (17, false)), (.pick (.t 22) (.t 26) (.c (.bool false)))⟩, ⟨(some 28), none, (.pick (.t 17) (.c (.bool true)) (.t 27))⟩, ⟨(some 6), none, (.mv (.t 28))⟩]) .ret))
theorem tr32 : Try.f32.body.bind (trCode Try.prog) = some (strip ac32) := by kernel_rfl
theorem spec32 (x : Lk) (a b : List UInt8) : Spec Try.prog 32 [.fz (.agg (encLk x)), .fz (.str a), .fz (.str b)] (.fz (.bool (isP a b x))) := by
  refine spec_at (n := 26) (ars := [(.t 6)]) (ac := ac32) Try.func32 (by kernel_rfl) (by kernel_rfl) tr32 (by kernel_rfl) ?_
  unfold ac32
  iterate 30 (all_goals (try (first
    | (with_reducible refine ite_in (fun _ => ?_) (fun _ => ?_))
    | (with_reducible refine ⟨fun _ => ?_, fun _ => ?_⟩)
    | (with_reducible refine And.intro ?_ ?_)
    | (with_reducible intro _)
    | (with_reducible exact is_in _)
    | (simp -implicitDefEqProofs only [SD, SF, SL, e_nf, reduceCtorEq, implies_true, ↓reduceIte, Nat.reduceEqDiff, Nat.reduceAdd, Nat.reduceMul, Nat.reduceSub, Nat.reduceLeDiff, Nat.reduceLT, Int.reduceLT, Int.reduceLE, Int.reduceEq, Int.reduceToNat, Int.reduceAdd, Int.reduceSub, Int.reduceNeg, Int.reduceBEq, Int.reduceBNe, Nat.reduceBEq, Int.cast_ofNat_Int, decide_true, decide_false, ne_eq, eq_self_iff_true, beq_eq_false_iff_ne, bne_iff_ne, List.replicate, encLk, *]))))
  all_goals (first | (simp_all [isP]; done) | grind [isP])
def ac30 : AC := (.seq (.ops [⟨(some 2), none, (.box (.t 0))⟩, ⟨(some 3), none, (.box (.t 1))⟩, ⟨(some 4), none, (.mv (.c (.bool false)))⟩]) (.seq (.ops [⟨(some 5), none, (.ixp 2 1 (.t 2) (.c (.int .i64 0)))⟩, ⟨(some 6), none, (.ld false 1 (.t 5))⟩, ⟨(some 7), none, (.ixp 2 1 (.t 3) (.c (.int .i64 0)))⟩, ⟨(some 8), none, (.ld false 1 (.t 7))⟩, ⟨(some 9), none, (.bin .gtr (.t 6) (.t 8))⟩, ⟨(some 10), none, (.mv (.t 9))⟩, ⟨(some 11), (some (10, false)), (.ixp 2 1 (.t 2) (.c (.int .i64 0)))⟩, ⟨(some 12), (some (10, false)), (.ld false 1 (.t 11))⟩, ⟨(some 13), (some (10, false)), (.ixp 2 1 (.t 3) (.c (.int .i64 0)))⟩, ⟨(some 14), (some (10, false)), (.ld false 1 (.t 13))⟩, ⟨(some 15), (some (10, false)), (.bin .eql (.t 12) (.t 14))⟩, ⟨(some 16), (some (10, false)), (.mv (.t 15))⟩, ⟨(some 17), (some (16, true)), (.ixp 2 1 (.t 2) (.c (.int .i64 1)))⟩, ⟨(some 18), (some (16, true)), (.ld false 1 (.t 17))⟩, ⟨(some 19), (some (16, true)), (.ixp 2 1 (.t 3) (.c (.int .i64 1)))⟩, ⟨(some 20), (some (16, true)), (.ld false 1 (.t 19))⟩, ⟨(some 21), (some (16, true)), (.bin .gtr (.t 18) (.t 20))⟩, ⟨(some 22), (some (10, false)), (.pick (.t 16) (.t 21) (.c (.bool false)))⟩, ⟨(some 23), none, (.pick (.t 10) (.c (.bool true)) (.t 22))⟩, ⟨(some 4), none, (.mv (.t 23))⟩]) .ret))
theorem tr30 : Try.f30.body.bind (trCode Try.prog) = some (strip ac30) := by kernel_rfl
theorem spec30 (x y : Lk) : Spec Try.prog 30 [.fz (.agg (encLk x)), .fz (.agg (encLk y))] (.fz (.bool (gtL x y))) := by
  refine spec_at (n := 22) (ars := [(.t 4)]) (ac := ac30) Try.func30 (by kernel_rfl) (by kernel_rfl) tr30 (by kernel_rfl) ?_
  unfold ac30
  iterate 30 (all_goals (try (first
    | (with_reducible refine ite_in (fun _ => ?_) (fun _ => ?_))
    | (with_reducible refine ⟨fun _ => ?_, fun _ => ?_⟩)
    | (with_reducible refine And.intro ?_ ?_)
    | (with_reducible intro _)
    | (with_reducible exact is_in _)
    | (simp -implicitDefEqProofs only [SD, SF, SL, e_nf, reduceCtorEq, implies_true, ↓reduceIte, Nat.reduceEqDiff, Nat.reduceAdd, Nat.reduceMul, Nat.reduceSub, Nat.reduceLeDiff, Nat.reduceLT, Int.reduceLT, Int.reduceLE, Int.reduceEq, Int.reduceToNat, Int.reduceAdd, Int.reduceSub, Int.reduceNeg, Int.reduceBEq, Int.reduceBNe, Nat.reduceBEq, Int.cast_ofNat_Int, decide_true, decide_false, ne_eq, eq_self_iff_true, beq_eq_false_iff_ne, bne_iff_ne, List.replicate, encLk, *]))))
  all_goals (first | (simp_all [gtL]; done) | grind [gtL])
def ac29 : AC := (.seq (.ops [⟨(some 1), none, (.box (.t 0))⟩, ⟨(some 2), none, (.mv (.c .any))⟩]) (.seq (.ops [⟨(some 6), none, (.fld 1 (.t 1))⟩, ⟨(some 7), none, (.ld false 1 (.t 6))⟩, ⟨(some 8), none, (.len (.t 7))⟩, ⟨(some 9), none, (.mkm (.ag [.s, .s]) (some (.t 8)))⟩, ⟨(some 3), none, (.mv (.t 9))⟩]) (.seq (.seq (.ops [⟨(some 10), none, (.fld 1 (.t 1))⟩, ⟨(some 11), none, (.ld false 1 (.t 10))⟩, ⟨(some 12), none, (.len (.t 11))⟩, ⟨(some 13), none, (.mv (.c (.int .i64 0)))⟩]) (.block 0 (.loop (.seq (.ops [⟨(some 14), none, (.bin .lss (.t 13) (.t 12))⟩]) (.seq (.cond (.t 14) .skip (.exit 0)) (.seq (.block 1 (.seq (.ops [⟨(some 15), none, (.ix 2 (.t 11) (.t 13))⟩, ⟨(some 16), none, (.ld true 2 (.t 15))⟩, ⟨(some 5), none, (.alloc [(.str []), (.str [])])⟩, ⟨none, none, (.sto 2 (.t 5) (.t 16))⟩]) (.ops [⟨(some 17), none, (.mv (.t 3))⟩, ⟨(some 18), none, (.ixp 2 1 (.t 5) (.c (.int .i64 0)))⟩, ⟨(some 19), none, (.ld false 1 (.t 18))⟩, ⟨(some 20), none, (.ixp 2 1 (.t 5) (.c (.int .i64 1)))⟩, ⟨(some 21), none, (.ld false 1 (.t 20))⟩, ⟨(some 22), none, (.call false 28 [(.t 19), (.t 21)])⟩, ⟨none, none, (.mput (.ag [.s, .s]) (.t 17) (.t 22) (.c (.bool true)))⟩]))) (.ops [⟨(some 23), none, (.bin .add (.t 13) (.c (.int .i64 1)))⟩, ⟨(some 13), none, (.mv (.t 23))⟩]))))))) (.seq (.ops [⟨(some 24), none, (.mv (.t 3))⟩, ⟨(some 2), none, (.mv (.t 24))⟩]) .ret))))
theorem tr29 : Try.f29.body.bind (trCode Try.prog) = some (strip ac29) := by kernel_rfl
theorem spec29 (nw : Ntw) : Spec Try.prog 29 [.fz (.agg (encNw nw))] (.ownm KKp (kents (keysL nw.cuts))) := by
  refine spec_at (n := 24) (ars := [(.t 2)]) (ac := ac29) Try.func29 (by kernel_rfl) (by kernel_rfl) tr29 (by kernel_rfl) ?_
  unfold ac29
  iterate 10 (all_goals (try (first
    | (with_reducible refine ite_in (fun _ => ?_) (fun _ => ?_))
    | (with_reducible refine ⟨fun _ => ?_, fun _ => ?_⟩)
    | (with_reducible refine And.intro ?_ ?_)
    | (with_reducible intro _)
    | (with_reducible exact is_in _)
    | (simp -implicitDefEqProofs only [SD, SF, SL, e_nf, reduceCtorEq, implies_true, ↓reduceIte, Nat.reduceEqDiff, Nat.reduceAdd, Nat.reduceMul, Nat.reduceSub, Nat.reduceLeDiff, Nat.reduceLT, Int.reduceLT, Int.reduceLE, Int.reduceEq, Int.reduceToNat, Int.reduceAdd, Int.reduceSub, Int.reduceNeg, Int.reduceBEq, Int.reduceBNe, Nat.reduceBEq, Int.cast_ofNat_Int, decide_true, decide_false, ne_eq, eq_self_iff_true, beq_eq_false_iff_ne, bne_iff_ne, List.replicate, encNw, *]))))
  rename_i hl1 hl
  refine loop_q (X := List Lk × List Lk × Unit) (fun n x => nw.cuts = x.1 ++ x.2.1 ∧ n = x.2.1.length ∧ (True)) (fun x => [(13, .int .i64 x.1.length)]) (fun x => [(9, .mp KKp (kents (keysL x.1)))]) [5, 14, 15, 16, 17, 18, 19, 20, 21, 22, 23] [5]  (nw.cuts).length ([], nw.cuts, ()) ⟨rfl, rfl, by trivial⟩ ?_ ?_
  · simp -implicitDefEqProofs only [SD, SF, SL, e_nf, reduceCtorEq, implies_true, ↓reduceIte, Nat.reduceEqDiff, Nat.reduceAdd, Nat.reduceMul, Nat.reduceSub, Nat.reduceLeDiff, Nat.reduceLT, Int.reduceLT, Int.reduceLE, Int.reduceEq, Int.reduceToNat, Int.reduceAdd, Int.reduceSub, Int.reduceNeg, Int.reduceBEq, Int.reduceBNe, Nat.reduceBEq, Int.cast_ofNat_Int, decide_true, decide_false, ne_eq, eq_self_iff_true, beq_eq_false_iff_ne, bne_iff_ne, List.replicate, encLk, knil, kput'] <;> simp
  · rintro n ⟨pre, rest, a⟩ ⟨he, rfl, hI⟩
    dsimp only at he hI
    cases rest with
    | nil =>
      obtain rfl : nw.cuts = pre := by simpa using he
      clear he
      have hlt : ¬ (((nw.cuts).length : Int) < ((nw.cuts).length : Int)) := Int.lt_irrefl _
      iterate 30 (all_goals (try (first
        | ((with_reducible refine of_kSpec ?_); refine call_fz (spec28 _ _) rfl ?_)
        | (with_reducible refine ite_in (fun _ => ?_) (fun _ => ?_))
        | (with_reducible refine ⟨fun _ => ?_, fun _ => ?_⟩)
        | (with_reducible refine And.intro ?_ ?_)
        | (with_reducible intro _)
        | (with_reducible exact is_in _)
        | (simp -implicitDefEqProofs only [SD, SF, SL, e_nf, reduceCtorEq, implies_true, ↓reduceIte, Nat.reduceEqDiff, Nat.reduceAdd, Nat.reduceMul, Nat.reduceSub, Nat.reduceLeDiff, Nat.reduceLT, Int.reduceLT, Int.reduceLE, Int.reduceEq, Int.reduceToNat, Int.reduceAdd, Int.reduceSub, Int.reduceNeg, Int.reduceBEq, Int.reduceBNe, Nat.reduceBEq, Int.cast_ofNat_Int, decide_true, decide_false, ne_eq, eq_self_iff_true, beq_eq_false_iff_ne, bne_iff_ne, List.replicate, encLk, knil, kput', *]))))

    | cons x rest =>
      have hlt := cut_lt he
      have hx := cutD encLk he
      simp only [encLk] at hx
      have hw := wrap_len (n := pre.length) (m := (nw.cuts).length) (cut_lt' he) (by simpa using hl)
      replace he := Hd.mk he
      have hsn := keysL_snoc pre x
      iterate 30 (all_goals (try (first
        | ((with_reducible refine back_in rest.length [5, 14, 15, 16, 17, 18, 19, 20, 21, 22, 23] [5] (pre ++ [x], rest, a) ?_ ⟨?_, ?_, ?_⟩ ?_)
           · simp
           · exact cut_snoc he.out
           · rfl
           · first | rfl | assumption | (simp_all []; done) | grind []
           · first | (simp -implicitDefEqProofs only [SD, SF, SL, e_nf, reduceCtorEq, implies_true, ↓reduceIte, Nat.reduceEqDiff, Nat.reduceAdd, Nat.reduceMul, Nat.reduceSub, Nat.reduceLeDiff, Nat.reduceLT, Int.reduceLT, Int.reduceLE, Int.reduceEq, Int.reduceToNat, Int.reduceAdd, Int.reduceSub, Int.reduceNeg, Int.reduceBEq, Int.reduceBNe, Nat.reduceBEq, Int.cast_ofNat_Int, decide_true, decide_false, ne_eq, eq_self_iff_true, beq_eq_false_iff_ne, bne_iff_ne, List.replicate, encLk, knil, kput'] <;> simp <;> done) | (simp -implicitDefEqProofs only [SD, SF, SL, e_nf, reduceCtorEq, implies_true, ↓reduceIte, Nat.reduceEqDiff, Nat.reduceAdd, Nat.reduceMul, Nat.reduceSub, Nat.reduceLeDiff, Nat.reduceLT, Int.reduceLT, Int.reduceLE, Int.reduceEq, Int.reduceToNat, Int.reduceAdd, Int.reduceSub, Int.reduceNeg, Int.reduceBEq, Int.reduceBNe, Nat.reduceBEq, Int.cast_ofNat_Int, decide_true, decide_false, ne_eq, eq_self_iff_true, beq_eq_false_iff_ne, bne_iff_ne, List.replicate, encLk, knil, kput', *] <;> simp_all <;> done))
        | ((with_reducible refine of_kSpec ?_); refine call_fz (spec28 _ _) rfl ?_)
        | (with_reducible refine ite_in (fun _ => ?_) (fun _ => ?_))
        | (with_reducible refine ⟨fun _ => ?_, fun _ => ?_⟩)
        | (with_reducible refine And.intro ?_ ?_)
        | (with_reducible intro _)
        | (with_reducible exact is_in _)
        | (simp -implicitDefEqProofs only [SD, SF, SL, e_nf, reduceCtorEq, implies_true, ↓reduceIte, Nat.reduceEqDiff, Nat.reduceAdd, Nat.reduceMul, Nat.reduceSub, Nat.reduceLeDiff, Nat.reduceLT, Int.reduceLT, Int.reduceLE, Int.reduceEq, Int.reduceToNat, Int.reduceAdd, Int.reduceSub, Int.reduceNeg, Int.reduceBEq, Int.reduceBNe, Nat.reduceBEq, Int.cast_ofNat_Int, decide_true, decide_false, ne_eq, eq_self_iff_true, beq_eq_false_iff_ne, bne_iff_ne, List.replicate, encLk, knil, kput', *]))))

end Go.Proofs.Ytklbfafdioeehaa.E
