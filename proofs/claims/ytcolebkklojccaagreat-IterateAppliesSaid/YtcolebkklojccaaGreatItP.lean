/-
  ItP: walks of functions of the program at data level.
-/
import Derived.Test.YtcolebkklojccaaGreatProg
import Derived.Test.YtcolebkklojccaaGreatEngZ
import Derived.Test.YtcolebkklojccaaGreatAuP
import Derived.Test.YtcolebkklojccaaGreatItP0
import Derived.KernelRfl
import Derived.Tactics
import Derived.Tactics2
import Derived.Defers
import Derived.Recover
import Derived.Laws.Pointers
import Derived.WalkKit
import Derived.WalkLawsBesides
set_option linter.unusedVariables false
set_option linter.unusedSimpArgs false
namespace Go.Proofs.YtcolebkklojccaaGreat.E
open Go
set_option linter.unusedSimpArgs false
set_option linter.unusedVariables false
set_option maxRecDepth 100000
set_option maxHeartbeats 4000000
def skipV : Value := .iface 67 (.agg #[])
def skipD : DV := .ifc 67 (.agg [])
theorem skip_RF (F : Frz) (w : World) : RF F w skipD skipV := by
  unfold skipD skipV
  rw [RF]
  refine ⟨_, rfl, ?_⟩
  rw [RF]
  exact ⟨_, rfl, by simp, by simp [RFs]⟩
theorem skip_of {F : Frz} {w : World} {v : Value} (h : RF F w skipD v) : v = skipV := by
  unfold skipD at h
  rw [RF] at h
  obtain ⟨u, rfl, h⟩ := h
  rw [RF] at h
  obtain ⟨arr, rfl, _, h⟩ := h
  rw [RFs] at h
  have : arr = #[] := by apply Array.ext'; simpa using h
  subst this
  rfl
theorem rv_any {M : Hnd} {F : Frz} {w : World} {v : Value} : RV M F w .any v := RVc_any (M := M) (F := F) (w := w) (v := v)
/-- the panic of iterate.set -/
theorem skip_wp {id : Nat} {p1 p2 p3 : String} {af1 af2 af3 : Array Edge} {O : Nat → Prop} {F0 : Frz} {w0 : World} {M : Hnd} {F : Frz} {s : DS} {a : Act} {w : World} (hi : Inv O F0 w0 M F s.env s.mem a w) (hl : s.env.length = 42) :
    (Code.region id #[{ dst := some 32, op := Op.build 67 #[], type := 67, pos := p1, after := af1, guard := none }, { dst := some 33, op := Op.makeInterface 67 (Operand.tmp 32), type := 20, pos := p2, after := af2, guard := none }, { dst := none, op := Op.panic (Operand.tmp 33), type := 0, pos := p3, after := af3, guard := none }] false).wp Tryz.prog (QD O F0 w0 skipD) a w := by
  have hsz : a.tmps.size = 42 := by
    have := hi.ev.length
    rw [hl] at this
    simpa using this
  have h1 : Inv O F0 w0 M F (stp s.env 32 .any) s.mem (a.put (some 32) (.agg #[])) w := hi.put 32 rv_any
  have h2 : Inv O F0 w0 M F (stp (stp s.env 32 .any) 33 .any) s.mem ((a.put (some 32) (.agg #[])).put (some 33) skipV) w := h1.put 33 rv_any
  refine wp_region_list ?_
  obtain ⟨tm, df⟩ := a
  simp [wpList, Oper.wp, go_sem, hsz]
  exact .inl (.inl (.inl ⟨⟨stp (stp s.env 32 .any) 33 .any, s.mem⟩, M, F, skipD, skipV, rfl, skip_RF _ _, h2, rfl⟩))

theorem run_ta2 (w : World) : (Instr.typeAssert (.iface 67 (.agg #[])) 20 67 true).run Tryz.prog w = .ok (.tuple #[.agg #[], .bool true]) w := by
  simp [Instr.typeAssert, run_underlying Tryz.underlying67, go_sem, Result.andThen]
theorem rec_panicking (p q : Addr) (A : Option Addr) (n c : Nat) (u : Value) (older : List PanicEntry) (w : World) (hp : p.block < w.heap.size) (hq : q.block < w.heap.size) (hc : w.cell? p = some (.slice A n c)) (hd : w.cell? q = some u) (hz : w.frozen? q = false) :
    CallsD Tryz.prog 30 #[.pointer (some p), .pointer (some q)] (.panicking ({ v := skipV, recovered := false } :: older)) w fun e u' w' =>
      e = .returned (.tuple #[]) ∧ u' = .panicking ({ v := skipV, recovered := true } :: older) ∧ w' = (w.alloc (.cells #[] 67)).setCell q (.slice A n c) := by
  unfold skipV
  refine callsD_of_wpS Tryz.func30 rfl fun c₀ cs hu => ?_
  apply wpS_seq
  apply wpS_region
  simp [wpOpsS, go_sem, recoverD, hu, Tryz.ntmps30, Exit.thenS]
  apply wpS_seq
  apply wpS_region
  simp [wpOpsS, go_sem, recoverD, hu, Tryz.ntmps30, Exit.thenS]
  refine wpS_cond (t := true) (by simp [Act.eval, Array.replicate]) ?_
  simp only [if_true]
  have hta := run_ta2
  apply wpS_seq
  apply wpS_seq
  apply wpS_region
  simp [wpOpsS, go_sem, hta, Exit.thenS, Result.andThen]
  apply wpS_seq
  apply wpS_region
  simp [wpOpsS, go_sem, Exit.thenS]
  refine wpS_cond (t := false) (by simp [Act.eval, Array.replicate]) ?_
  simp only [Bool.false_eq_true, if_false]
  refine wpS_of_wp (wp_skip ?_)
  apply wpS_region
  have hc' : (w.alloc (.cells #[] 67)).cell? p = some (.slice A n c) := by rw [← hc]; exact World.cell?_alloc_old _ _ _ (Nat.ne_of_lt hp)
  have hd' : (w.alloc (.cells #[] 67)).cell? q = some u := by rw [← hd]; exact World.cell?_alloc_old _ _ _ (Nat.ne_of_lt hq)
  have hz' : (w.alloc (.cells #[] 67)).frozen? q = false := by rw [← hz]; exact World.frozen?_alloc_old _ _ _ (Nat.ne_of_lt hq)
  simp [wpOpsS, go_sem, Exit.thenS, hc', hd', hz', bodyPostS, results, Tryz.results30]
theorem rec_idle (p q : Addr) (w : World) :
    CallsD Tryz.prog 30 #[.pointer (some p), .pointer (some q)] .returning w fun e u' w' => e = .returned (.tuple #[]) ∧ u' = .returning ∧ w' = w := by
  refine callsD_of_wpS Tryz.func30 rfl fun c₀ cs hu => ?_
  apply wpS_seq
  apply wpS_region
  simp [wpOpsS, go_sem, recoverD, hu, Tryz.ntmps30, Exit.thenS]
  apply wpS_seq
  apply wpS_region
  simp [wpOpsS, go_sem, recoverD, hu, Tryz.ntmps30, Exit.thenS]
  refine wpS_cond (t := false) (by simp [Act.eval, Array.replicate]) ?_
  simp only [Bool.false_eq_true, if_false]
  refine wpS_of_wp (wp_skip ?_)
  cases c₀
  simp_all [bodyPostS, results, Tryz.results30]
def stepW (w : World) (A : Option Addr) (n c : Nat) : World := (w.alloc (.cells #[.slice A n c] 24)).alloc (.cells #[.slice none 0 0] 24)
theorem step_walk_pan {A : Option Addr} {n c : Nat} {ve vi : Value} {w : World} {R : World → Prop}
    (h : Calls Tryz.prog 31 #[ve, .slice A n c, vi] (stepW w A n c) fun e w' => e = .panicked [{ v := skipV, recovered := false }] ∧ R w' ∧ w.heap.size + 1 < w'.heap.size ∧ w'.cell? ⟨w.heap.size, 0, none⟩ = some (.slice A n c) ∧ w'.cell? ⟨w.heap.size + 1, 0, none⟩ = some (.slice none 0 0) ∧ w'.frozen? ⟨w.heap.size + 1, 0, none⟩ = false) :
    Calls Tryz.prog 16 #[ve, .slice A n c, vi] w fun e w' => e = .returned (.slice A n c) ∧ ∃ w1, R w1 ∧ w' = (w1.alloc (.cells #[] 67)).setCell ⟨w.heap.size + 1, 0, none⟩ (.slice A n c) := by
  have hmf : ∀ (fn : Fn) (first cap : Array Value) (w : World), (Instr.makeFunc fn first cap).run Tryz.prog w = .ok (.func fn first cap) w := fun _ _ _ _ => rfl
  unfold stepW at h
  go_enter_defers Tryz.func16, Tryz.ntmps16
  go_wp2_with (fail)
  refine h.mono ?_
  rintro e w1 ⟨rfl, hR, hlt, hc1, hc2, hz⟩
  refine leaves_cons (f := 30) (args := #[.pointer (some ⟨w.heap.size, 0, none⟩), .pointer (some ⟨w.heap.size + 1, 0, none⟩)]) (by simp) (by simp [go_sem]) ?_
  refine (rec_panicking ⟨w.heap.size, 0, none⟩ ⟨w.heap.size + 1, 0, none⟩ A n c _ [] w1 (by show w.heap.size < _; omega) hlt hc1 hc2 hz).mono ?_
  rintro e u' w'' ⟨rfl, rfl, rfl⟩
  have hr : ((w1.alloc (.cells #[] 67)).setCell ⟨w.heap.size + 1, 0, none⟩ (.slice A n c)).cell? ⟨w.heap.size + 1, 0, none⟩ = some (.slice A n c) := World.cell?_setCell_same _ _ _ (u := .slice none 0 0) (by rw [World.cell?_alloc_old _ _ _ (Nat.ne_of_lt hlt)]; exact hc2)
  simp [Leaves, settle, results, Tryz.results16, go_sem, hr]
  exact ⟨w1, hR, rfl⟩
theorem step_walk_ret {A : Option Addr} {n c : Nat} {ve vi : Value} {w : World} {R : Value → World → Prop}
    (h : Calls Tryz.prog 31 #[ve, .slice A n c, vi] (stepW w A n c) fun e w' => ∃ B m d, e = .returned (.slice B m d) ∧ R (.slice B m d) w' ∧ w.heap.size + 1 < w'.heap.size ∧ w'.cell? ⟨w.heap.size + 1, 0, none⟩ = some (.slice none 0 0) ∧ w'.frozen? ⟨w.heap.size + 1, 0, none⟩ = false) :
    Calls Tryz.prog 16 #[ve, .slice A n c, vi] w fun e w' => ∃ v w1, e = .returned v ∧ R v w1 ∧ w.heap.size + 1 < w1.heap.size ∧ w' = w1.setCell ⟨w.heap.size + 1, 0, none⟩ v := by
  have hmf : ∀ (fn : Fn) (first cap : Array Value) (w : World), (Instr.makeFunc fn first cap).run Tryz.prog w = .ok (.func fn first cap) w := fun _ _ _ _ => rfl
  unfold stepW at h
  go_enter_defers Tryz.func16, Tryz.ntmps16
  go_wp2_with (fail)
  refine h.mono ?_
  rintro e w1 ⟨B, m, d, rfl, hR, hlt, hc2, hz⟩
  go_wp2_with (fail)
  refine leaves_cons (f := 30) (args := #[.pointer (some ⟨w.heap.size, 0, none⟩), .pointer (some ⟨w.heap.size + 1, 0, none⟩)]) (by simp) (by simp [go_sem]) ?_
  refine (rec_idle ⟨w.heap.size, 0, none⟩ ⟨w.heap.size + 1, 0, none⟩ _).mono ?_
  rintro e u' w'' ⟨rfl, rfl, rfl⟩
  have hr : (w1.setCell ⟨w.heap.size + 1, 0, none⟩ (.slice B m d)).cell? ⟨w.heap.size + 1, 0, none⟩ = some (.slice B m d) := World.cell?_setCell_same _ _ _ (u := .slice none 0 0) hc2
  simp [Leaves, settle, results, Tryz.results16, go_sem, hr]
  exact ⟨w1, hR, hlt, rfl⟩

end Go.Proofs.YtcolebkklojccaaGreat.E

namespace Go.Proofs.YtcolebkklojccaaGreat.E
open Go
set_option linter.unusedSimpArgs false
set_option linter.unusedVariables false
set_option maxRecDepth 100000
set_option maxHeartbeats 4000000
section
variable {F F' : Frz} {w w2 : World} {O : Nat → Prop} {A : Option Addr} {n c : Nat}
theorem stepW_size : (stepW w A n c).heap.size = w.heap.size + 2 := by unfold stepW; rw [alloc_size, alloc_size]
theorem stepW_old {b : Nat} (h : b < w.heap.size) : (stepW w A n c).heap[b]? = w.heap[b]? := by unfold stepW; rw [alloc_old _ _ (by rw [alloc_size]; omega), alloc_old _ _ h]
theorem stepW_s : (stepW w A n c).heap[w.heap.size]? = some (.cells #[.slice A n c] 24) := by unfold stepW; rw [alloc_old _ _ (by rw [alloc_size]; omega), alloc_new]
theorem stepW_n : (stepW w A n c).heap[w.heap.size + 1]? = some (.cells #[.slice none 0 0] 24) := by
  unfold stepW
  have := alloc_new (w.alloc (.cells #[.slice A n c] 24)) (.cells #[.slice none 0 0] 24)
  rw [alloc_size] at this
  exact this
theorem stepW_keeps (hf : ∀ b o, F b o → b < w.heap.size) : Keeps F w F (stepW w A n c) :=
  ⟨fun _ _ h => h, fun b o' h => cell_of_block (stepW_old (hf b o' h)) o'⟩
theorem step_cells (hg : Grow (fun _ => False) F (stepW w A n c) F' w2) : w.heap.size + 1 < w2.heap.size ∧ w2.cell? ⟨w.heap.size, 0, none⟩ = some (.slice A n c) ∧ w2.cell? ⟨w.heap.size + 1, 0, none⟩ = some (.slice none 0 0) ∧ w2.frozen? ⟨w.heap.size + 1, 0, none⟩ = false := by
  have hb := hg.block w.heap.size (by rw [stepW_size]; omega) (fun h => h)
  have hb2 := hg.block (w.heap.size + 1) (by rw [stepW_size]; omega) (fun h => h)
  have hs := hg.size
  rw [stepW_size] at hs
  refine ⟨by omega, ?_, ?_, ?_⟩
  · rw [cell_of_block hb]
    unfold World.cell?
    simp only [stepW_s]
    rfl
  · rw [cell_of_block hb2]
    unfold World.cell?
    simp only [stepW_n]
    rfl
  · rw [frz_of hb2]
    unfold World.frozen?
    simp only [stepW_n]
    rfl
theorem grow_step (hf : ∀ b o, F b o → b < w.heap.size) (hg : Grow (fun _ => False) F (stepW w A n c) F' w2) {w' : World} (h1 : ∀ b, b < w.heap.size → w'.heap[b]? = w2.heap[b]?) (hs : w2.heap.size ≤ w'.heap.size) (ho : w'.os = w2.os) (ht : w'.tape = w2.tape) (hp : w'.output = w2.output) : Grow O F w F w' ∧ Keeps F w F w' := by
  have h2 := hg.size
  rw [stepW_size] at h2
  have hb : ∀ b, b < w.heap.size → w'.heap[b]? = w.heap[b]? := fun b hb => by rw [h1 b hb, hg.block b (by rw [stepW_size]; omega) (fun h => h), stepW_old hb]
  refine ⟨⟨fun _ _ h => h, fun _ _ h => .inl h, fun b o h => ?_, by omega, fun b h3 _ => hb b h3, ho.trans hg.os, ht.trans hg.tape, hp.trans hg.output⟩, fun _ _ h => h, fun b o h => cell_of_block (hb b (hf b o h)) o⟩
  have := hf b o h
  omega
theorem grow_step2 (hf : ∀ b o, F b o → b < w.heap.size) (hg : Grow (fun _ => False) F (stepW w A n c) F' w2) {v : Value} : Grow O F w F' (w2.setCell ⟨w.heap.size + 1, 0, none⟩ v) ∧ Keeps F' w2 F' (w2.setCell ⟨w.heap.size + 1, 0, none⟩ v) := by
  have h2 := hg.size
  rw [stepW_size] at h2
  have hz : (w2.setCell ⟨w.heap.size + 1, 0, none⟩ v).heap.size = w2.heap.size := by simp [World.setCell]
  have hb : ∀ b, b < w.heap.size → (w2.setCell ⟨w.heap.size + 1, 0, none⟩ v).heap[b]? = w.heap[b]? := fun b hb => by rw [set_other _ _ _ (by show b ≠ w.heap.size + 1; omega), hg.block b (by rw [stepW_size]; omega) (fun h => h), stepW_old hb]
  refine ⟨⟨hg.sub, fun b o h => ?_, fun b o h => by rw [hz]; exact hg.fwf b o h, by omega, fun b h3 _ => hb b h3, hg.os, hg.tape, hg.output⟩, fun _ _ h => h, fun b o h => cell_of_block (set_other _ _ _ ?_) o⟩
  · rcases hg.new b o h with h | h | h
    · exact .inl h
    · rw [stepW_size] at h
      exact .inr (.inl (by omega))
    · exact h.elim
  · show b ≠ w.heap.size + 1
    rcases hg.new b o h with h | h | h
    · have := hf b o h
      omega
    · rw [stepW_size] at h
      omega
    · exact h.elim
end
theorem args3 {F : Frz} {w : World} {E S : List (List DV)} {i : Int} {vs : Array Value} (h : All2 (ArgOK F w) [.fz (.sl 29 E), .fz (.sl 3 S), .fz (.int .i64 i)] vs.toList) :
    ∃ ve A n c, vs = #[ve, .slice A n c, .int .i64 i] ∧ RF F w (.sl 29 E) ve ∧ RF F w (.sl 3 S) (.slice A n c) := by
  obtain ⟨v1, r1, e1, h1, v2, r2, e2, h2, v3, r3, e3, h3, h4⟩ := h
  have h1 : RF F w (.sl 29 E) v1 := h1
  have h2 : RF F w (.sl 3 S) v2 := h2
  have h3 : RF F w (.int .i64 i) v3 := h3
  have h4 : r3 = [] := h4
  subst h4 e3 e2
  rw [RF] at h3
  subst h3
  have h2' := h2
  rw [RF] at h2'
  obtain ⟨A, c, rfl, _⟩ := h2'
  exact ⟨v1, A, _, c, by apply Array.ext'; simpa using e1, h1, h2⟩
theorem spec_step_pan {E S : List (List DV)} {i : Int} (hg : SpecP Tryz.prog 31 [.sl 29 E, .sl 3 S, .int .i64 i] skipD) : Spec Tryz.prog 16 [.fz (.sl 29 E), .fz (.sl 3 S), .fz (.int .i64 i)] (.fz (.sl 3 S)) := by
  refine ⟨by kernel_rfl, fun F w vs hf hargs _ => ?_⟩
  obtain ⟨ve, A, n, c, rfl, he, hs⟩ := args3 hargs
  have hk := stepW_keeps (A := A) (n := n) (c := c) hf
  have hcall := hg.2 F (stepW w A n c) #[ve, .slice A n c, .int .i64 i] (fun b o h => Nat.lt_of_lt_of_le (hf b o h) (by rw [stepW_size]; omega)) ⟨_, _, rfl, RF.mono hk _ _ he, _, _, rfl, RF.mono hk _ _ hs, _, _, rfl, by rw [RF], rfl⟩
  refine (step_walk_pan (R := fun w2 => ∃ F', Grow (fun _ => False) F (stepW w A n c) F' w2) (hcall.mono ?_)).mono ?_
  · rintro e w2 ⟨v, F', rfl, h1, h2⟩
    obtain ⟨h3, h4, h5, h6⟩ := step_cells h1
    rw [skip_of h2]
    exact ⟨rfl, ⟨F', h1⟩, h3, h4, h5, h6⟩
  · rintro e w' ⟨rfl, w1, ⟨F', h1⟩, rfl⟩
    have h3 := (step_cells h1).1
    obtain ⟨g1, g2⟩ := grow_step (O := _) hf h1 (w' := (w1.alloc (.cells #[] 67)).setCell ⟨w.heap.size + 1, 0, none⟩ (.slice A n c)) (fun b hb => by rw [set_other _ _ _ (by show b ≠ w.heap.size + 1; omega), alloc_old _ _ (by omega)]) (by rw [show ((w1.alloc (.cells #[] 67)).setCell ⟨w.heap.size + 1, 0, none⟩ (.slice A n c)).heap.size = (w1.alloc (.cells #[] 67)).heap.size by simp [World.setCell], alloc_size]; omega) rfl rfl rfl
    exact ⟨_, F, rfl, g1, RF.mono g2 _ _ hs⟩
theorem spec_step_ret {E S T : List (List DV)} {i : Int} (hg : Spec Tryz.prog 31 [.fz (.sl 29 E), .fz (.sl 3 S), .fz (.int .i64 i)] (.fz (.sl 3 T))) : Spec Tryz.prog 16 [.fz (.sl 29 E), .fz (.sl 3 S), .fz (.int .i64 i)] (.fz (.sl 3 T)) := by
  refine ⟨by kernel_rfl, fun F w vs hf hargs _ => ?_⟩
  obtain ⟨ve, A, n, c, rfl, he, hs⟩ := args3 hargs
  have hk := stepW_keeps (A := A) (n := n) (c := c) hf
  have hno : ∀ (i' : Nat) e sz xs, ([.fz (.sl 29 E), .fz (.sl 3 S), .fz (.int .i64 i)] : List RK)[i']? ≠ some (.own e sz xs) := by
    intro i' e sz xs h1
    match i' with
    | 0 => simp at h1
    | 1 => simp at h1
    | 2 => simp at h1
    | k + 3 => simp at h1
  have hO : ∀ b, ¬ ownB [.fz (.sl 29 E), .fz (.sl 3 S), .fz (.int .i64 i)] (#[ve, .slice A n c, .int .i64 i] : Array Value).toList b := fun b ⟨i, e, sz, xs, _, h1, _⟩ => hno i e sz xs h1
  have hcall := hg.2 F (stepW w A n c) #[ve, .slice A n c, .int .i64 i] (fun b o h => Nat.lt_of_lt_of_le (hf b o h) (by rw [stepW_size]; omega)) ⟨_, _, rfl, RF.mono hk _ _ he, _, _, rfl, RF.mono hk _ _ hs, _, _, rfl, by show RF _ _ _ _; rw [RF], rfl⟩ (fun i j e sz xs _ _ _ _ _ _ h1 => absurd h1 (hno i e sz xs))
  refine (step_walk_ret (R := fun v w2 => ∃ F', Grow (fun _ => False) F (stepW w A n c) F' w2 ∧ RF F' w2 (.sl 3 T) v) (hcall.mono ?_)).mono ?_
  · rintro e w2 ⟨v, F', rfl, h1, h2⟩
    have h1 : Grow (fun _ => False) F (stepW w A n c) F' w2 :=
      ⟨h1.sub, fun b o hb => (h1.new b o hb).imp id fun h => h.imp id fun h => hO b h, h1.fwf, h1.size, fun b hb _ => h1.block b hb (hO b), h1.os, h1.tape, h1.output⟩
    obtain ⟨h3, _, h5, h6⟩ := step_cells h1
    have h2 : RF F' w2 (.sl 3 T) v := h2
    have h2' := h2
    rw [RF] at h2'
    obtain ⟨B, d, rfl, _⟩ := h2'
    exact ⟨B, _, d, rfl, ⟨F', h1, h2⟩, h3, h5, h6⟩
  · rintro e w' ⟨v, w1, rfl, ⟨F', h1, h2⟩, h3, rfl⟩
    obtain ⟨g1, g2⟩ := grow_step2 (O := _) hf h1 (v := v)
    exact ⟨_, F', rfl, g1, RF.mono g2 _ _ h2⟩

end Go.Proofs.YtcolebkklojccaaGreat.E
