/-
  The tail of the function that ranges over a function and then over a map.
-/
import Derived.Test.YtcjlkbffmggekaaOnL
set_option linter.unusedVariables false
set_option linter.unusedSimpArgs false
set_option linter.unusedSimpArgs false
set_option linter.unusedVariables false
set_option maxRecDepth 100000
set_option maxHeartbeats 4000000
namespace Go.Proofs.Ytcjlkbffmggekaa.E
open Go
attribute [local congr] c_wp c_ops c_op c_opS c_run c_runS c_dt c_seq c_blk c_loop c_S c_put c_bind c_mv c_pick c_nt c_ng c_bin c_binI c_binS c_beq c_B c_eqa c_hd c_cells c_blkK c_box c_vec c_mp c_nck c_mks c_appn c_mkm c_mput c_mlk c_mrm c_take c_ld c_ldF c_cellsK c_st c_fld c_fldv c_ix c_ixp c_ixv c_ixs c_sub c_subs c_len c_lens c_src c_dst c_ow c_app c_ext c_mm c_conv c_str c_isn c_fill c_rows c_boxo c_frz c_frzO c_frzA c_frzV c_spec c_specO c_opsP c_opP c_runP c_specP c_Z c_qretP c_fz c_fn c_gv c_cond c_res1 c_resL c_ret c_qret c_ite c_unr c_nx c_bk c_cut c_is
attribute [local irreducible] dwp
theorem ops_step {F : Fence} {n : Nat} {P : Program} {ops : Array Oper} {Q : Exit → Act → World → Prop} {i : Nat} {rest : List Nat} {a : Act} {w : World} {o : Oper} (ho : ops[i]? = some o) (hg : o.guard = none) (h : o.wpIn F n P a w (wpOpsIn F n P ops Q rest) Q) : wpOpsIn F n P ops Q (i :: rest) a w := by
  unfold wpOpsIn
  simp only [ho]
  rw [if_pos (by simp [Region.wanted, hg])]
  exact h
theorem weak17 {E : List DV} {u v : List UInt8} (hl : E.length = 45) (h1 : E[1]? = some (.str u)) (h2 : E[2]? = some (.str v)) : All2 (fun d d' => d' = d ∨ d' = .any) E (E17 u v) := by
  refine All2.of_get (by simp [E17, hl]) fun i d d' g1 g2 => ?_
  match i with
  | 0 => right; simpa [E17] using g2.symm
  | 1 => left; rw [h1] at g1; cases g1; simpa [E17] using g2.symm
  | 2 => left; rw [h2] at g1; cases g1; simpa [E17] using g2.symm
  | i + 3 =>
    right
    simp only [E17, List.cons_append, List.nil_append, List.getElem?_cons_succ, List.getElem?_replicate] at g2
    split at g2
    · exact (Option.some.inj g2).symm
    · cases g2
section
variable {O : Nat → Prop} {F0 : Frz} {w0 : World} {n : Nat}
theorem Aside.alloc {F : Frz} {w : World} {b : Nat} {o : Obj} (h : Aside F w0 w b o) (o' : Obj) : Aside F w0 (w.alloc o') b o := ⟨(heap_alloc_old w _ h.lt).trans h.here, h.late, h.free, h.nod⟩
theorem hc17 : c17 (Try.f17.body.getD .skip) = .seq (.seq (n17 (Try.f17.body.getD .skip)) (.block 2 (.loop (l17 (Try.f17.body.getD .skip))))) (z17 (Try.f17.body.getD .skip)) := by kernel_rfl
theorem hl17 : l17 (Try.f17.body.getD .skip) = .seq (x17 (Try.f17.body.getD .skip)) (.seq (.cond (.tmp 30) .skip (.exit 2)) (.block 3 (.seq (e17 (Try.f17.body.getD .skip)) (t17 (Try.f17.body.getD .skip))))) := by kernel_rfl
theorem hn17 : n17 (Try.f17.body.getD .skip) = .region 5 (rgO (n17 (Try.f17.body.getD .skip))) false := by kernel_rfl
theorem hx17 : x17 (Try.f17.body.getD .skip) = .region 6 (rgO (x17 (Try.f17.body.getD .skip))) false := by kernel_rfl
theorem he17 : e17 (Try.f17.body.getD .skip) = .region 7 (rgO (e17 (Try.f17.body.getD .skip))) false := by kernel_rfl
def acZ : AC := (.seq (.ops [⟨(some 6), none, (.mv (.c (.int .i64 0)))⟩]) .ret)
theorem trZ : trCodeF Try.prog [] (z17 (Try.f17.body.getD .skip)) = some (strip acZ) := by kernel_rfl
def acT : AC := (.seq (.ops [⟨(some 34), none, (.fld 0 (.t 10))⟩, ⟨(some 35), none, (.ld false 1 (.t 34))⟩, ⟨(some 36), none, (.mv (.t 1))⟩, ⟨(some 37), none, (.bin .eql (.t 35) (.t 36))⟩, ⟨(some 38), none, (.mv (.t 37))⟩, ⟨(some 39), (some (38, true)), (.fld 1 (.t 10))⟩, ⟨(some 40), (some (38, true)), (.ld false 1 (.t 39))⟩, ⟨(some 41), (some (38, true)), (.mv (.t 2))⟩, ⟨(some 42), (some (38, true)), (.bin .eql (.t 40) (.t 41))⟩, ⟨(some 43), none, (.pick (.t 38) (.t 42) (.c (.bool false)))⟩]) (.cond (.t 43) (.seq (.ops [⟨(some 44), none, (.mv (.t 11))⟩, ⟨(some 6), none, (.mv (.t 44))⟩]) .ret) .skip))
theorem trT : trCodeF Try.prog [] (t17 (Try.f17.body.getD .skip)) = some (strip acT) := by kernel_rfl
def alE : List AOper := [⟨(some 32), none, (.ext (.t 31) 0)⟩, ⟨(some 33), none, (.ext (.t 31) 1)⟩, ⟨(some 10), none, (.alloc [(.str []), (.str [])])⟩, ⟨none, none, (.sto 2 (.t 10) (.t 32))⟩, ⟨(some 11), none, (.mv (.t 33))⟩]
theorem trE : trOpers Try.prog (rgO (e17 (Try.f17.body.getD .skip))) ((rgO (e17 (Try.f17.body.getD .skip))).toList.drop 1) = some (stripL alE) := by kernel_rfl
theorem trX1 : trOpers Try.prog (rgO (x17 (Try.f17.body.getD .skip))) ((rgO (x17 (Try.f17.body.getD .skip))).toList.drop 1) = some (stripL [⟨(some 30), none, (.ext (.t 29) 0)⟩]) := by kernel_rfl
theorem sub_ops (ops : Array Oper) : ∀ j, (ops.toList.drop 1)[j]? = ops[1 + j]? := by
  intro j
  rw [List.getElem?_drop]
  simp
/-- the slots behind a look at an entry -/
def eE (u v : List UInt8) (d : DV) (p : Lk × Int) : List DV := stp (stp (stp (stp (stp (stp (stp (E17 u v) 29 d) 30 (.bool true)) 31 (.tup [.agg (encLk p.1), .int .i64 p.2])) 32 (.agg (encLk p.1))) 33 (.int .i64 p.2)) 10 (.ml 10 0)) 11 (.int .i64 p.2)
theorem runE (u v : List UInt8) (p : Lk × Int) : dOps Try.prog alE ⟨stp (stp (stp (E17 u v) 29 (.tup [.bool true, .any, .any])) 30 (.bool true)) 31 (.tup [.agg (encLk p.1), .int .i64 p.2]), []⟩ (fun s => s = ⟨eE u v (.tup [.bool true, .any, .any]) p, [(10, .box (encLk p.1))]⟩) := by
  unfold alE
  simp -implicitDefEqProofs only [SD, SF, SL, e_nf, reduceCtorEq, implies_true, ↓reduceIte, Nat.reduceEqDiff, Nat.reduceAdd, Nat.reduceMul, Nat.reduceSub, Nat.reduceLeDiff, Nat.reduceLT, Int.reduceLT, Int.reduceLE, Int.reduceEq, Int.reduceToNat, Int.reduceAdd, Int.reduceSub, Int.reduceNeg, Int.reduceBEq, Int.reduceBNe, Nat.reduceBEq, Int.cast_ofNat_Int, decide_true, decide_false, ne_eq, eq_self_iff_true, beq_eq_false_iff_ne, bne_iff_ne, List.replicate, E17, encLk, List.replicate, eE]
  try rfl
def tQ (u v : List UInt8) (p : Lk × Int) (ars : List AR) (e : AE) (s : DS) : Prop :=
  match e with
  | .normal => p.1 ≠ (u, v) ∧ s.env.length = 45 ∧ s.env[1]? = some (.str u) ∧ s.env[2]? = some (.str v)
  | .ret => p.1 = (u, v) ∧ kRet ars (.fz (.int .i64 p.2)) s
  | _ => False
theorem tQ_n (u v : List UInt8) (p : Lk × Int) (ars : List AR) (s : DS) : tQ u v p ars .normal s = (p.1 ≠ (u, v) ∧ s.env.length = 45 ∧ s.env[1]? = some (.str u) ∧ s.env[2]? = some (.str v)) := rfl
theorem tQ_r (u v : List UInt8) (p : Lk × Int) (ars : List AR) (s : DS) : tQ u v p ars .ret s = (p.1 = (u, v) ∧ kRet ars (.fz (.int .i64 p.2)) s) := rfl
theorem runT (u v : List UInt8) (p : Lk × Int) : dwp Try.prog acT ⟨eE u v (.tup [.bool true, .any, .any]) p, [(10, .box (encLk p.1))]⟩ (tQ u v p [(.t 6)]) := by
  obtain ⟨⟨a, b⟩, m⟩ := p
  unfold acT
  iterate 20 (all_goals (try (first
    | (with_reducible refine ite_in (fun _ => ?_) (fun _ => ?_))
    | (with_reducible refine ⟨fun _ => ?_, fun _ => ?_⟩)
    | (with_reducible refine And.intro ?_ ?_)
    | (with_reducible intro _)
    | (with_reducible exact is_in _)
    | (simp -implicitDefEqProofs only [SD, SF, SL, e_nf, reduceCtorEq, implies_true, ↓reduceIte, Nat.reduceEqDiff, Nat.reduceAdd, Nat.reduceMul, Nat.reduceSub, Nat.reduceLeDiff, Nat.reduceLT, Int.reduceLT, Int.reduceLE, Int.reduceEq, Int.reduceToNat, Int.reduceAdd, Int.reduceSub, Int.reduceNeg, Int.reduceBEq, Int.reduceBNe, Nat.reduceBEq, Int.cast_ofNat_Int, decide_true, decide_false, ne_eq, eq_self_iff_true, beq_eq_false_iff_ne, bne_iff_ne, List.replicate, E17, encLk, List.replicate, eE, tQ_n, tQ_r, *]))))
  all_goals (first | (simp_all; done) | trace_state)
theorem runZ (u v : List UInt8) : dwp Try.prog acZ ⟨stp (stp (E17 u v) 29 (.tup [.bool false])) 30 (.bool false), []⟩ (Qret [(.t 6)] (.fz (.int .i64 0))) := by
  unfold acZ
  iterate 6 (all_goals (try (first
    | (with_reducible refine ite_in (fun _ => ?_) (fun _ => ?_))
    | (with_reducible refine ⟨fun _ => ?_, fun _ => ?_⟩)
    | (with_reducible refine And.intro ?_ ?_)
    | (with_reducible intro _)
    | (with_reducible exact is_in _)
    | (simp -implicitDefEqProofs only [SD, SF, SL, e_nf, reduceCtorEq, implies_true, ↓reduceIte, Nat.reduceEqDiff, Nat.reduceAdd, Nat.reduceMul, Nat.reduceSub, Nat.reduceLeDiff, Nat.reduceLT, Int.reduceLT, Int.reduceLE, Int.reduceEq, Int.reduceToNat, Int.reduceAdd, Int.reduceSub, Int.reduceNeg, Int.reduceBEq, Int.reduceBNe, Nat.reduceBEq, Int.cast_ofNat_Int, decide_true, decide_false, ne_eq, eq_self_iff_true, beq_eq_false_iff_ne, bne_iff_ne, List.replicate, E17, *]))))
theorem runX (u v : List UInt8) (l : List DV) (b : Bool) : dOps Try.prog [⟨(some 30), none, (.ext (.t 29) 0)⟩] ⟨stp (E17 u v) 29 (.tup (.bool b :: l)), []⟩ (fun s => s = ⟨stp (stp (E17 u v) 29 (.tup (.bool b :: l))) 30 (.bool b), []⟩) := by
  simp -implicitDefEqProofs only [SD, SF, SL, e_nf, reduceCtorEq, implies_true, ↓reduceIte, Nat.reduceEqDiff, Nat.reduceAdd, E17, List.replicate]
  try rfl
theorem Inv.bare {M : Hnd} {F : Frz} {env : List DV} {mem : Mem} {a : Act} {w : World} (h : Inv O F0 w0 M F env mem a w) : Inv O F0 w0 M F env [] a w :=
  ⟨h.dl, h.ev, fun k blk hk => by simp [mget] at hk, fun k k' blk blk' v v' b hk => by simp [mget] at hk, h.grow⟩
theorem Aside.drew {F : Frz} {w : World} {b : Nat} {o : Obj} (h : Aside F w0 w b o) : Aside F w0 w.drew b o := ⟨h.here, h.late, h.free, h.nod⟩
/-- what stays the same while the map is gone through -/
structure MX (O : Nat → Prop) (F0 : Frz) (w0 : World) (D ib r clk : Nat) (arr : Array MapEntry) (kvs : List (Lk × Int)) (seen : Array Nat) (M : Hnd) (F : Frz) (env : List DV) (a : Act) (w : World) : Prop where
  inv : Inv O F0 w0 M F env [] (less [] a) w
  dfr : a.defers = [mark D]
  asd : Aside F w0 w D (.deferred (some []))
  slot : a.tmps[28]? = some (.pointer (some ⟨ib, 0, none⟩))
  asi : Aside F w0 w ib (.mapIter (some r) clk seen clk)
  nd : D ≠ ib
  nr : r ≠ ib
  lt : r < w.heap.size
  mp : w.heap[r]? = some (.map arr clk)
  en : EntsOK F w KKp (kentV kvs) arr clk
def SeenNo (kvs : List (Lk × Int)) (arr : Array MapEntry) (seen : Array Nat) (q : Lk) : Prop := ∀ (i : Nat) p e, kvs[i]? = some p → arr.toList[i]? = some e → e.born ∈ seen → p.1 ≠ q
def leftN (ib : Nat) (arr : Array MapEntry) (w : World) : Nat := match w.heap[ib]? with
  | some (.mapIter _ _ seen _) => (leftOf arr seen).size
  | _ => 0
theorem hN17 : rgO (n17 (Try.f17.body.getD .skip)) = #[⟨some 27, .load 52 (.tmp 7), 52, "onetime.go:96", #[], none⟩, ⟨some 28, .range 52 (.tmp 27), 0, "onetime.go:96", #[⟨0, .data⟩], none⟩] := by kernel_rfl
theorem hX17 : (rgO (x17 (Try.f17.body.getD .skip)))[0]? = some ⟨some 29, .next (.tmp 28) false, 0, "onetime.go:96", #[], none⟩ := by kernel_rfl
theorem hE17 : (rgO (e17 (Try.f17.body.getD .skip)))[0]? = some ⟨some 31, .entry (.tmp 28), 0, "onetime.go:96", #[], none⟩ := by kernel_rfl
theorem lX17 : ((rgO (x17 (Try.f17.body.getD .skip))).toList.drop 1).length = 1 := by kernel_rfl
theorem lE17 : ((rgO (e17 (Try.f17.body.getD .skip))).toList.drop 1).length = 5 := by kernel_rfl
theorem sX17 : (rgO (x17 (Try.f17.body.getD .skip))).size = 2 := by kernel_rfl
theorem sE17 : (rgO (e17 (Try.f17.body.getD .skip))).size = 6 := by kernel_rfl
theorem EntsOK.mono {F F' : Frz} {w w' : World} {kk : KK} {es : List (DV × DV)} {arr : Array MapEntry} {clk : Nat} (hk : Keeps F w F' w') (h : EntsOK F w kk es arr clk) : EntsOK F' w' kk es arr clk := ⟨h.1.mono fun _ _ => EntOK.mono hk, h.2⟩
theorem Inv.slots {M : Hnd} {F : Frz} {env : List DV} {mem : Mem} {a : Act} {w : World} (h : Inv O F0 w0 M F env mem a w) : a.tmps.size = env.length := by
  have := h.ev.length
  simpa using this
theorem exec_range {P : Program} {ρ : Operand → Value} {o : Oper} {t : TypeId} {x : Operand} {w w' : World} {v : Value} (ho : o.op = .range t x) (h : (Instr.range t (ρ x)).run P w = .ok v w') : (execOp ρ o).run P w = .ok (.value v) w' := by
  unfold execOp
  rw [ho]
  simp only [Sem.run_bind, h]
  rfl
theorem exec_next {P : Program} {ρ : Operand → Value} {o : Oper} {x : Operand} {s : Bool} {w w' : World} {v : Value} (ho : o.op = .next x s) (h : (Instr.next (ρ x) s o.type).run P w = .ok v w') : (execOp ρ o).run P w = .ok (.value v) w' := by
  unfold execOp
  rw [ho]
  simp only [Sem.run_bind, h]
  rfl
theorem exec_entry {P : Program} {ρ : Operand → Value} {o : Oper} {x : Operand} {w w' : World} {v : Value} (ho : o.op = .entry x) (h : (Instr.entry (ρ x)).run P w = .ok v w') : (execOp ρ o).run P w = .ok (.value v) w' := by
  unfold execOp
  rw [ho]
  simp only [Sem.run_bind, h]
  rfl
theorem nodup_at {α : Type} {l : List α} (h : l.Nodup) {i j : Nat} {x : α} (hi : l[i]? = some x) (hj : l[j]? = some x) : i = j := by
  obtain ⟨hi1, hi2⟩ := List.getElem?_eq_some_iff.1 hi
  obtain ⟨hj1, hj2⟩ := List.getElem?_eq_some_iff.1 hj
  have hp := List.pairwise_iff_getElem.1 h
  rcases Nat.lt_trichotomy i j with hlt | heq | hgt
  · exact absurd (hi2.trans hj2.symm) (hp i j hi1 hj1 hlt)
  · exact heq
  · exact absurd (hj2.trans hi2.symm) (hp j i hj1 hi1 hgt)
/-- the iterator is laid -/
theorem lay17 {kvs : List (Lk × Int)} {u v : List UInt8} {E : List DV} {mem : Mem} {mk : Nat} {M : Hnd} {F : Frz} {D : Nat} {a : Act} {w : World} {Q : Exit → Act → World → Prop}
    (hi : Inv O F0 w0 M F E mem (less [] a) w) (hd : a.defers = [mark D]) (hD : Aside F w0 w D (.deferred (some [])))
    (hE : E.length = 45) (h1 : E[1]? = some (.str u)) (h2 : E[2]? = some (.str v)) (h7 : E[7]? = some (.ml 7 0)) (hm7 : mget mem 7 = some (.box [.ow mk])) (hmk : mget mem mk = some (.mp KKp (kentV kvs)))
    (hQ : ∀ a' w', (∃ M' F' ib r clk arr, MX O F0 w0 D ib r clk arr kvs #[] M' F' (E17 u v) a' w') → Q .normal a' w') : (n17 (Try.f17.body.getD .skip)).wpIn Fence.wide n Try.prog Q a w := by
  rw [hn17]
  refine wpIn_region (show wpOpsIn (Gf none) n Try.prog _ Q [0, 1] a w from ?_)
  rw [hN17]
  have hl : dOps Try.prog [] ⟨stp E 27 (.ow mk), mem⟩ (fun s => s = ⟨stp E 27 (.ow mk), mem⟩) := rfl
  refine ops_step rfl rfl (Oper.wpIn_mono (fun a1 w1 hf => ?_) (opIn_of_wp (J := []) (pre := []) (t0 := a.tmps) (ds := [mark D]) rfl hd (fun j hj => by simp at hj) (sound_ld (s := ⟨E, mem⟩) (K := fun s => s = ⟨stp E 27 (.ow mk), mem⟩) (ap := .t 7) hi.rebase rfl Try.underlying52 (n := 1) (by kernel_rfl) rfl rfl ?_)))
  · obtain ⟨pre, hd1, _, s1, M1, F1, hi1, rfl⟩ := hf
    obtain rfl : pre = [] := hi1.dl
    have hd1 : a1.defers = [mark D] := hd1
    have hD1 := hD.step hi hi1
    replace hi1 := unbase hi hi1
    obtain ⟨mv, hMk, r, arr, clk, rfl, hNr, hFr, hr, hen⟩ := hi1.mm mk _ hmk
    have hlen : (stp E 27 (.ow mk)).length = 45 := by rw [stp_eq]; simp [hE]
    have hsz : a1.tmps.size = 45 := by
      have := hi1.slots
      rw [hlen] at this
      exact this
    have hrlt : r < w1.heap.size := (Array.getElem?_eq_some_iff.1 hr).1
    have hget := hi1.get 27
    have hg27 : gt (stp E 27 (.ow mk)) 27 = .ow mk := by
      rw [gt_eq, stp_eq]
      simp [hE]
    rw [hg27] at hget
    obtain ⟨hget, _⟩ := hget
    rw [hMk] at hget
    have hev : a1.eval (.tmp 27) = .map (some r) := (Option.some.inj hget).symm
    refine ops_step rfl rfl (opIn_val (fun c h => by cases h) (v := .pointer (some ⟨w1.heap.size, 0, none⟩)) (w' := w1.alloc (.mapIter (some r) clk #[] clk)) (exec_range rfl (by rw [hev]; exact run_range_map w1 52 57 3 r arr clk Try.underlying52 hr)) ?_)
    refine hQ _ _ ⟨M1, F1, w1.heap.size, r, clk, arr, ?_⟩
    have hinv := ((hi1.alloc (.mapIter (some r) clk #[] clk)).put 28 (d := .any) (v := .pointer (some ⟨w1.heap.size, 0, none⟩)) (RV_RVc (RVc_any (M := M1) (F := F1) (w := w1.alloc (.mapIter (some r) clk #[] clk)) (v := .pointer (some ⟨w1.heap.size, 0, none⟩))))).bare
    refine ⟨hinv.weaken (weak17 ?_ ?_ ?_), hd1, hD1.alloc _, ?_, ⟨heap_alloc_new w1 _, hi1.grow.size, fun i hf => Nat.lt_irrefl _ (hi1.grow.fwf _ i hf), rfl⟩, Nat.ne_of_lt hD1.lt, Nat.ne_of_lt hrlt, ?_, (heap_alloc_old w1 _ hrlt).trans hr, hen.mono ⟨fun _ _ h => h, fun b o hb => cell_of_block (heap_alloc_old w1 _ (hi1.grow.fwf b o hb)) o⟩⟩
    · simp [stp_eq, hE]
    · simp [stp_eq, h1]
    · simp [stp_eq, h2]
    · simp [Act.put, hsz]
    · simp; omega
  · have : ev E (.t 7) = .ml 7 0 := by simp [ev, gt_eq, h7]
    show kLd false 1 (ev E (.t 7)) mem _
    rw [this, e_ldm, hm7]
    exact rfl
theorem map17 {kvs : List (Lk × Int)} {u v : List UInt8} {E : List DV} {mem : Mem} {mk : Nat} {M : Hnd} {F : Frz} {D : Nat} {a : Act} {w : World} {Q : Exit → Act → World → Prop}
    (hi : Inv O F0 w0 M F E mem (less [] a) w) (hd : a.defers = [mark D]) (hD : Aside F w0 w D (.deferred (some [])))
    (hE : E.length = 45) (h1 : E[1]? = some (.str u)) (h2 : E[2]? = some (.str v)) (h7 : E[7]? = some (.ml 7 0)) (hm7 : mget mem 7 = some (.box [.ow mk])) (hmk : mget mem mk = some (.mp KKp (kentV kvs))) (hn : (kvs.map (·.1)).Nodup)
    (hQn : ∀ a w, Rg O F0 w0 (kRet [(.t 6)] (.fz (.int .i64 ((lkV kvs (u, v)).getD 0)))) a w → Q .normal a w) (hQ : ∀ a w, Rg O F0 w0 (kRet [(.t 6)] (.fz (.int .i64 ((lkV kvs (u, v)).getD 0)))) a w → Q .ret a w) : (c17 (Try.f17.body.getD .skip)).wpIn Fence.wide n Try.prog Q a w := by
  rw [hc17]
  refine wpIn_seq (wpIn_seq (lay17 hi hd hD hE h1 h2 h7 hm7 hmk ?_))
  clear hi hd hD hE h1 h2 h7 hm7 hmk
  rintro a1 w1 ⟨M1, F1, ib, r, clk, arr, hx⟩
  refine wpIn_block (wpIn_loop (fun a w => ∃ seen M F, MX O F0 w0 D ib r clk arr kvs seen M F (E17 u v) a w ∧ SeenNo kvs arr seen (u, v)) (fun _ w => leftN ib arr w) ⟨#[], M1, F1, hx, fun i p e _ _ h => by simp at h⟩ ?_)
  clear hx
  rintro a2 w2 ⟨seen, M2, F2, hx, hs⟩
  have hsz2 : a2.tmps.size = 45 := by
    have := hx.inv.slots
    simpa [E17, less] using this
  have hleft : leftN ib arr w2 = (leftOf arr seen).size := by
    unfold leftN
    rw [hx.asi.here]
  have hev28 : a2.eval (.tmp 28) = .pointer (some ⟨ib, 0, none⟩) := by
    show a2.tmps.getD 28 undef = _
    rw [Array.getD_eq_getD_getElem?, hx.slot]
    rfl
  rw [hl17]
  refine wpIn_seq ?_
  rw [hx17]
  refine wpIn_region ?_
  rw [sX17]
  refine ops_step (rest := [1]) hX17 rfl ?_
  rcases run_next_at (P := Try.prog) w2 0 ib r clk clk seen arr clk hx.asi.here hx.mp hx.en.2.1 (Nat.le_refl _) with ⟨h0, hrun⟩ | ⟨e, he, w1', hw1, hrun⟩
  · -- nothing is left
    have hnone := MI.none_left (D := 0) (ib := 0) (r := 0) hx.en hs h0
    refine opIn_val (ro := none) (fun c h => by cases h) (v := .tuple #[.bool false]) (w' := w2) (exec_next rfl (by rw [hev28]; exact hrun)) ?_
    have hp := hx.inv.rebase.put 29 (d := .tup [.bool false]) (v := .tuple #[.bool false]) (by show RF _ _ _ _; rw [RF]; exact ⟨_, rfl, by rw [RFs_iff]; exact All2.cons (by rw [RF]) All2.nil⟩)
    have ht := opsX_tail (ro := none) (n := n) (k := 1) (J := []) (pre := []) (ds := [mark D]) (t0 := (a2.put (some 29) (.tuple #[.bool false])).tmps) (a := a2.put (some 29) (.tuple #[.bool false])) (sub_ops (rgO (x17 (Try.f17.body.getD .skip)))) trX1 (by kernel_rfl) hx.dfr (fun j hj => by simp at hj) hp (runX u v [] false)
    rw [lX17] at ht
    refine wpOpsIn_mono (fun e a3 w3 hq => ?_) _ _ _ ht
    obtain ⟨pre, hd3, _, rfl, s3, M3, F3, hi3, rfl⟩ := hq
    obtain rfl : pre = [] := hi3.dl
    have hc : a3.eval (.tmp 30) = .bool false := by
      have := hi3.get 30
      rw [show gt (stp (stp (E17 u v) 29 (.tup [.bool false])) 30 (.bool false)) 30 = .bool false from rfl] at this
      have h' : RF F3 w3 (.bool false) _ := this
      rw [RF] at h'
      exact h'
    refine wpIn_seq (wpIn_cond_false hc (wpIn_exit ?_))
    refine rg_cont (O := O) (F0 := F0) (w0 := w0) (fl := []) (K := fun s => s = ⟨stp (stp (E17 u v) 29 (.tup [.bool false])) 30 (.bool false), []⟩) (Q := Qret [(.t 6)] (.fz (.int .i64 0))) ⟨_, M3, F3, D, unbase hx.inv hi3, rfl, hd3, hx.asd.step hx.inv hi3⟩ rfl trZ (by kernel_rfl) (fun s hs => by subst hs; exact runZ u v) ?_ ?_ ?_ ?_
    · intro a4 w4 h4
      refine hQn _ _ ?_
      rw [hnone]
      exact h4
    · intro a4 w4 h4
      refine hQ _ _ ?_
      rw [hnone]
      exact h4
    · rintro id a4 w4 ⟨_, _, _, _, _, h, _⟩
      exact h.elim
    · exact qret_pan
  · -- an entry that is left
    obtain ⟨i, p, hp, hai, hek, hev⟩ := MI.entry hx.en (left_of he).1
    have hw2 : Inv O F0 w0 M2 F2 (E17 u v) [] (less [] a2) w1' ∧ Aside F2 w0 w1' D (.deferred (some [])) ∧ Aside F2 w0 w1' ib (.mapIter (some r) clk seen clk) ∧ w1'.heap = w2.heap := by
      rcases hw1 with rfl | rfl
      · exact ⟨hx.inv, hx.asd, hx.asi, rfl⟩
      · exact ⟨hx.inv.drew, hx.asd.drew, hx.asi.drew, rfl⟩
    obtain ⟨hi1, hD1, hI1, hh1⟩ := hw2
    have hi2 := hi1.turn hI1 (.mapIter (some r) clk (seen.push e.born) clk)
    have hD2 := hD1.other (o' := .mapIter (some r) clk (seen.push e.born) clk) hx.nd
    have hI2 := hI1.turn (o' := .mapIter (some r) clk (seen.push e.born) clk) rfl
    have hm2 : (w1'.putObj ib (.mapIter (some r) clk (seen.push e.born) clk)).heap[r]? = some (.map arr clk) := by
      rw [World.putObj_heap_other hx.nr, hh1]
      exact hx.mp
    have hl2 : r < (w1'.putObj ib (.mapIter (some r) clk (seen.push e.born) clk)).heap.size := (Array.getElem?_eq_some_iff.1 hm2).1
    have hen2 : EntsOK F2 (w1'.putObj ib (.mapIter (some r) clk (seen.push e.born) clk)) KKp (kentV kvs) arr clk :=
      hx.en.mono ⟨fun _ _ h => h, fun b o hb => cell_of_block (by
        have hne : b ≠ ib := by
          rintro rfl
          exact hI1.free o hb
        rw [World.putObj_heap_other hne, hh1]) o⟩
    have hkw := (MI.entry hen2 (left_of he).1)
    obtain ⟨i', p', hp', hai', hek', hev'⟩ := hkw
    clear hek hev hp hai p i
    generalize hwd : w1'.putObj ib (.mapIter (some r) clk (seen.push e.born) clk) = w2' at *
    refine opIn_val (ro := none) (fun c h => by cases h) (v := .tuple #[.bool true, e.key, e.val]) (w' := w2') (exec_next rfl (by rw [hev28, hrun, ← hwd]; rfl)) ?_
    have hb := hi2.rebase
    have hpt := hb.put 29 (d := .tup [.bool true, .any, .any]) (v := .tuple #[.bool true, e.key, e.val]) (by show RF _ _ _ _; rw [RF]; exact ⟨_, rfl, by rw [RFs_iff]; exact All2.cons (by rw [RF]) (All2.cons (by rw [RF]; trivial) (All2.cons (by rw [RF]; trivial) All2.nil))⟩)
    have ht := opsX_tail (ro := none) (n := n) (k := 1) (J := [28]) (pre := []) (ds := [mark D]) (t0 := a2.tmps) (a := a2.put (some 29) (.tuple #[.bool true, e.key, e.val])) (sub_ops (rgO (x17 (Try.f17.body.getD .skip)))) trX1 (by kernel_rfl) hx.dfr (fun j hj => by simp at hj; subst hj; simp [Act.put]) hpt (runX u v [.any, .any] true)
    rw [lX17] at ht
    refine wpOpsIn_mono (fun e3 a3 w3 hq => ?_) _ _ _ ht
    obtain ⟨pre, hd3, hav3, rfl, s3, M3, F3, hi3, rfl⟩ := hq
    obtain rfl : pre = [] := hi3.dl
    have hc : a3.eval (.tmp 30) = .bool true := by
      have := hi3.get 30
      rw [show gt (stp (stp (E17 u v) 29 (.tup [.bool true, .any, .any])) 30 (.bool true)) 30 = .bool true from rfl] at this
      have h' : RF F3 w3 (.bool true) _ := this
      rw [RF] at h'
      exact h'
    refine wpIn_seq (wpIn_cond_true hc (wpIn_skip ?_))
    refine wpIn_block (wpIn_seq ?_)
    rw [he17]
    refine wpIn_region ?_
    rw [sE17]
    refine ops_step (rest := [1, 2, 3, 4, 5]) hE17 rfl ?_
    have hI3 := hI2.step hi2 hi3
    have hm3 : w3.heap[r]? = some (.map arr clk) := (same_of_bare hi3 hl2).trans hm2
    have hk3 : Keeps F2 w2' F3 w3 := hi3.grow.keeps hi2.grow.fwf (fun b o _ => by rintro ⟨k, blk, v, h1, _⟩; simp [mget] at h1)
    have hev3 : a3.eval (.tmp 28) = .pointer (some ⟨ib, 0, none⟩) := by
      show a3.tmps.getD 28 undef = _
      rw [Array.getD_eq_getD_getElem?, hav3 28 (by simp), hx.slot]
      rfl
    refine opIn_val (ro := none) (fun c h => by cases h) (v := .tuple #[e.key, e.val]) (w' := w3) (exec_entry rfl (by rw [hev3]; exact run_entry_at w3 ib r clk seen arr clk e hI3.here hm3 (left_of he).1 hx.en.2.2)) ?_
    have hpe := hi3.put 31 (d := .tup [.agg (encLk p'.1), .int .i64 p'.2]) (v := .tuple #[e.key, e.val]) (by show RF _ _ _ _; rw [RF]; exact ⟨_, rfl, by rw [RFs_iff]; exact All2.cons (RF.mono hk3 _ _ hek') (All2.cons (RF.mono hk3 _ _ hev') All2.nil)⟩)
    have ht2 := opsX_tail (ro := none) (n := n) (k := 1) (J := [28]) (pre := []) (ds := [mark D]) (t0 := a2.tmps) (a := a3.put (some 31) (.tuple #[e.key, e.val])) (sub_ops (rgO (e17 (Try.f17.body.getD .skip)))) trE (by kernel_rfl) hd3 (fun j hj => by have := hav3 j hj; simp at hj; subst hj; simpa [Act.put] using this) hpe (runE u v p')
    rw [lE17] at ht2
    refine wpOpsIn_mono (fun e4 a4 w4 hq => ?_) _ _ _ ht2
    obtain ⟨pre, hd4, hav4, rfl, s4, M4, F4, hi4, rfl⟩ := hq
    obtain rfl : pre = [] := hi4.dl
    show (t17 (Try.f17.body.getD .skip)).wpIn (Gf none) n Try.prog _ a4 w4
    refine wpIn_mono (dwpX_sound (ro := none) (n := n) (J := [28]) (t0 := a2.tmps) (ds := [mark D]) (pre := []) acT rfl trT (by kernel_rfl) hd4 hav4 hi4 (runT u v p')) fun e5 a5 w5 hq => ?_
    cases e5 with
    | normal =>
      obtain ⟨pre, hd5, hav5, s5, M5, F5, hi5, hne, hl5, hu5, hv5⟩ := hq
      obtain rfl : pre = [] := hi5.dl
      have hm5 : w5.heap[r]? = some (.map arr clk) := (same_of_bare hi5 hl2).trans hm2
      have hI5 := hI2.step hi2 hi5
      refine ⟨⟨seen.push e.born, M5, F5, ⟨(unbase hi2 hi5).bare.weaken (weak17 hl5 hu5 hv5), hd5, hD2.step hi2 hi5, ?_, hI5, hx.nd, hx.nr, (Array.getElem?_eq_some_iff.1 hm5).1, hm5, hen2.mono (hi5.grow.keeps hi2.grow.fwf (fun b o _ => by rintro ⟨k, blk, v, h1, _⟩; simp [mget] at h1))⟩, ?_⟩, ?_⟩
      · rw [hav5 28 (by simp)]
        exact hx.slot
      · intro j q e' hj hj' hb' hq
        rw [Array.mem_push] at hb'
        rcases hb' with hb' | hb'
        · exact hs j q e' hj hj' hb' hq
        · have hij : j = i' := by
            refine nodup_at hx.en.2.2 (x := e.born) ?_ ?_
            · rw [List.getElem?_map, hj', ← hb']; rfl
            · rw [List.getElem?_map, hai']; rfl
          subst hij
          rw [hp'] at hj
          cases hj
          exact hne hq
      · show leftN ib arr w5 < leftN ib arr w2
        rw [hleft]
        unfold leftN
        rw [hI5.here]
        exact left_less he
    | ret =>
      obtain ⟨pre, hd5, hav5, s5, M5, F5, hi5, heq, hret⟩ := hq
      obtain rfl : pre = [] := hi5.dl
      refine hQ _ _ ⟨s5, M5, F5, D, unbase hi2 hi5, ?_, hd5, hD2.step hi2 hi5⟩
      have hmem : p' ∈ kvs := List.mem_of_getElem? hp'
      have := lkV_mem hn hmem
      rw [heq] at this
      rw [this]
      exact hret
    | exit id => obtain ⟨_, _, _, _, _, _, _, h⟩ := hq; exact h.elim
    | panic ch => obtain ⟨_, _, _, _, _, _, _, _, _, _, _, h⟩ := hq; exact h.elim
    | _ => obtain ⟨_, _, _, h⟩ := hq; exact h.elim
end
end Go.Proofs.Ytcjlkbffmggekaa.E
