/-
  AuP: walks of functions of the program at data level.
-/
import Derived.Test.YtcolebkklojccaaGreatProg
import Derived.Test.YtcolebkklojccaaGreatEngZ
import Derived.KernelRfl
import Derived.Tactics
import Derived.Tactics2
import Derived.Defers
import Derived.Recover
import Derived.Laws.Pointers
import Derived.WalkKit
import Derived.WalkLawsBesides
set_option linter.unusedVariables false
set_option linter.unusedSimpArgs false
namespace Go.Proofs.YtcolebkklojccaaGreat.E
open Go
set_option linter.unusedSimpArgs false
set_option linter.unusedVariables false
set_option maxRecDepth 100000
set_option maxHeartbeats 4000000
def verd (x : Int) : Value := .iface 107 (.agg #[.int .i64 x])
def verdD (x : Int) : DV := .ifc 107 (.agg [.int .i64 x])
theorem verd_RF (F : Frz) (w : World) (x : Int) : RF F w (verdD x) (verd x) := by
  unfold verdD verd
  rw [RF]
  refine ⟨_, rfl, ?_⟩
  rw [RF]
  exact ⟨_, rfl, by simp [Value.oneCell'], by simp [RFs, RF]⟩
theorem decide_walk (x : Int) (w : World) : Calls Tryz.prog 70 #[.int .i64 x] w fun e w' => e = .panicked [{ v := verd x, recovered := false }] ∧ w' = w := by
  go_enter Tryz.func70, Tryz.ntmps70
  go_wp2
  exact ⟨rfl, rfl, rfl⟩
theorem run_ta (x : Int) (w : World) : (Instr.typeAssert (.iface 107 (.agg #[.int .i64 x])) 20 107 true).run Tryz.prog w = .ok (.tuple #[.agg #[.int .i64 x], .bool true]) w := by
  simp [Instr.typeAssert, run_underlying Tryz.underlying107, go_sem, Result.andThen]
theorem catch_panicking (p : Addr) (x y : Int) (older : List PanicEntry) (w : World) (hp : p.block < w.heap.size) (hc : w.cell? p = some (.int .i64 y)) (hz : w.frozen? p = false) :
    CallsD Tryz.prog 84 #[.pointer (some p)] (.panicking ({ v := verd x, recovered := false } :: older)) w fun e u' w' =>
      e = .returned (.tuple #[]) ∧ u' = .panicking ({ v := verd x, recovered := true } :: older) ∧ w' = ((w.alloc (.cells #[.int .i64 0] 107)).setCell ⟨w.heap.size, 0, none⟩ (.int .i64 x)).setCell p (.int .i64 x) := by
  unfold verd
  refine callsD_of_wpS Tryz.func84 rfl fun c₀ cs hu => ?_
  apply wpS_seq
  apply wpS_region
  simp [wpOpsS, go_sem, recoverD, hu, Tryz.ntmps84, Exit.thenS]
  apply wpS_seq
  apply wpS_region
  simp [wpOpsS, go_sem, recoverD, hu, Tryz.ntmps84, Exit.thenS]
  refine wpS_cond (t := true) (by simp [Act.eval, Array.replicate]) ?_
  simp only [if_true]
  have hta := run_ta x
  apply wpS_seq
  apply wpS_region
  simp [wpOpsS, go_sem, hta, Exit.thenS, Result.andThen]
  apply wpS_seq
  apply wpS_seq
  apply wpS_region
  simp [wpOpsS, go_sem, Exit.thenS]
  refine wpS_cond (t := false) (by simp [Act.eval, Array.replicate]) ?_
  simp only [Bool.false_eq_true, if_false]
  refine wpS_of_wp (wp_skip ?_)
  apply wpS_region
  have hc' : (w.alloc (.cells #[.int .i64 x] 107)).cell? p = some (.int .i64 y) := by rw [← hc]; exact World.cell?_alloc_old _ _ _ (Nat.ne_of_lt hp)
  have hz' : (w.alloc (.cells #[.int .i64 x] 107)).frozen? p = false := by rw [← hz]; exact World.frozen?_alloc_old _ _ _ (Nat.ne_of_lt hp)
  simp [wpOpsS, go_sem, Exit.thenS, hc', hz', bodyPostS, results, Tryz.results84]
theorem catch_idle (p : Addr) (w : World) :
    CallsD Tryz.prog 84 #[.pointer (some p)] .returning w fun e u' w' => e = .returned (.tuple #[]) ∧ u' = .returning ∧ w' = w := by
  refine callsD_of_wpS Tryz.func84 rfl fun c₀ cs hu => ?_
  apply wpS_seq
  apply wpS_region
  simp [wpOpsS, go_sem, recoverD, hu, Tryz.ntmps84, Exit.thenS]
  apply wpS_seq
  apply wpS_region
  simp [wpOpsS, go_sem, recoverD, hu, Tryz.ntmps84, Exit.thenS]
  refine wpS_cond (t := false) (by simp [Act.eval, Array.replicate]) ?_
  simp only [Bool.false_eq_true, if_false]
  refine wpS_of_wp (wp_skip ?_)
  cases c₀
  simp_all [bodyPostS, results, Tryz.results84]
theorem verd_of {F : Frz} {w : World} {x : Int} {v : Value} (h : RF F w (verdD x) v) : v = verd x := by
  unfold verdD at h
  rw [RF] at h
  obtain ⟨u, rfl, h⟩ := h
  rw [RF] at h
  obtain ⟨arr, rfl, _, h⟩ := h
  rw [RFs] at h
  obtain ⟨y, r, e, h1, h2⟩ := h
  rw [RF] at h1
  rw [RFs] at h2
  subst h1 h2
  have : arr = #[.int .i64 x] := by apply Array.ext'; simpa using e
  subst this
  rfl
theorem decided_walk_pan {g : Nat} {cap : Array Value} {x : Int} {w : World} {R : World → Prop} (h : Calls Tryz.prog g cap (w.alloc (.cells #[.int .i64 0] 33)) fun e w' => e = .panicked [{ v := verd x, recovered := false }] ∧ R w' ∧ w.heap.size < w'.heap.size ∧ w'.cell? ⟨w.heap.size, 0, none⟩ = some (.int .i64 0) ∧ w'.frozen? ⟨w.heap.size, 0, none⟩ = false)
    (hcf : ∀ w, (callFunc g cap).run Tryz.prog w = .ok (.enter g cap) w) :
    Calls Tryz.prog 65 #[.func (.func g) #[] cap] w fun e w' => e = .returned (.int .i64 x) ∧ ∃ w1, R w1 ∧ w' = ((w1.alloc (.cells #[.int .i64 x] 107)).setCell ⟨w.heap.size, 0, none⟩ (.int .i64 x)) := by
  have hmf : ∀ (fn : Fn) (first cap : Array Value) (w : World), (Instr.makeFunc fn first cap).run Tryz.prog w = .ok (.func fn first cap) w := fun _ _ _ _ => rfl
  go_enter_defers Tryz.func65, Tryz.ntmps65
  go_wp2
  refine h.mono ?_
  rintro e w1 ⟨rfl, hR, hlt, hc, hz⟩
  refine leaves_cons (f := 84) (args := #[.pointer (some ⟨w.heap.size, 0, none⟩)]) (by simp) (by simp [go_sem]) ?_
  refine (catch_panicking ⟨w.heap.size, 0, none⟩ x 0 [] w1 hlt hc hz).mono ?_
  rintro e u' w'' ⟨rfl, rfl, rfl⟩
  have hr : ((w1.alloc (.cells #[.int .i64 x] 107)).setCell ⟨w.heap.size, 0, none⟩ (.int .i64 x)).cell? ⟨w.heap.size, 0, none⟩ = some (.int .i64 x) := World.cell?_setCell_same _ _ _ (u := .int .i64 0) (by rw [World.cell?_alloc_old _ _ _ (Nat.ne_of_lt hlt)]; exact hc)
  simp [Leaves, settle, results, Tryz.results65, go_sem, hr]
  exact ⟨w1, hR, rfl⟩
theorem decided_walk_ret {g : Nat} {cap : Array Value} {w : World} {R : World → Prop} (h : Calls Tryz.prog g cap (w.alloc (.cells #[.int .i64 0] 33)) fun e w' => e = .returned (.tuple #[]) ∧ R w' ∧ w.heap.size < w'.heap.size ∧ w'.cell? ⟨w.heap.size, 0, none⟩ = some (.int .i64 0) ∧ w'.frozen? ⟨w.heap.size, 0, none⟩ = false)
    (hcf : ∀ w, (callFunc g cap).run Tryz.prog w = .ok (.enter g cap) w) :
    Calls Tryz.prog 65 #[.func (.func g) #[] cap] w fun e w' => e = .returned (.int .i64 0) ∧ ∃ w1, R w1 ∧ w' = (w1.setCell ⟨w.heap.size, 0, none⟩ (.int .i64 0)) := by
  have hmf : ∀ (fn : Fn) (first cap : Array Value) (w : World), (Instr.makeFunc fn first cap).run Tryz.prog w = .ok (.func fn first cap) w := fun _ _ _ _ => rfl
  go_enter_defers Tryz.func65, Tryz.ntmps65
  go_wp2
  refine h.mono ?_
  rintro e w1 ⟨rfl, hR, hlt, hc, hz⟩
  go_wp2
  refine leaves_cons (f := 84) (args := #[.pointer (some ⟨w.heap.size, 0, none⟩)]) (by simp) (by simp [go_sem]) ?_
  refine (catch_idle ⟨w.heap.size, 0, none⟩ _).mono ?_
  rintro e u' w'' ⟨rfl, rfl, rfl⟩
  have hr : (w1.setCell ⟨w.heap.size, 0, none⟩ (.int .i64 0)).cell? ⟨w.heap.size, 0, none⟩ = some (.int .i64 0) := World.cell?_setCell_same _ _ _ (u := .int .i64 0) hc
  simp [Leaves, settle, results, Tryz.results65, go_sem, hr]
  exact ⟨w1, hR, rfl⟩
theorem alloc_size (w : World) (o : Obj) : (w.alloc o).heap.size = w.heap.size + 1 := by
  show (w.heap.push o).size = _
  simp
theorem alloc_new (w : World) (o : Obj) : (w.alloc o).heap[w.heap.size]? = some o := by
  show (w.heap.push o)[w.heap.size]? = _
  simp
theorem alloc_old (w : World) (o : Obj) {b : Nat} (h : b < w.heap.size) : (w.alloc o).heap[b]? = w.heap[b]? := by
  show (w.heap.push o)[b]? = _
  simp [Array.getElem?_push, Nat.ne_of_lt h]
theorem set_other (w : World) (a : Addr) (v : Value) {b : Nat} (h : b ≠ a.block) : (w.setCell a v).heap[b]? = w.heap[b]? := by
  simp only [World.setCell, Array.getElem?_modify]
  rw [if_neg (fun e => h e.symm)]
theorem frz_of {w w' : World} {b o : Nat} (h : w'.heap[b]? = w.heap[b]?) : w'.frozen? ⟨b, o, none⟩ = w.frozen? ⟨b, o, none⟩ := by
  unfold World.frozen?
  rw [h]
theorem fn_arg {F : Frz} {w : World} {g : Nat} {cap : List DV} {vs : Array Value} (h : All2 (ArgOK F w) [.fz (.fn g cap)] vs.toList) : ∃ arr, vs = #[.func (.func g) #[] arr] ∧ RFs F w cap arr.toList := by
  obtain ⟨v, r, e, h1, h2⟩ := h
  have h1 : RF F w (.fn g cap) v := h1
  rw [RF] at h1
  obtain ⟨arr, rfl, h3⟩ := h1
  have h2 : r = [] := h2
  subst h2
  exact ⟨arr, by apply Array.ext'; simpa using e, h3⟩
section
variable {F F' : Frz} {w w2 : World} {O : Nat → Prop}
theorem new_cell (hg : Grow (fun _ => False) F (w.alloc (.cells #[.int .i64 0] 33)) F' w2) : w.heap.size < w2.heap.size ∧ w2.cell? ⟨w.heap.size, 0, none⟩ = some (.int .i64 0) ∧ w2.frozen? ⟨w.heap.size, 0, none⟩ = false := by
  have hs : w.heap.size < (w.alloc (.cells #[.int .i64 0] 33)).heap.size := by rw [alloc_size]; omega
  have hb := hg.block w.heap.size hs (fun h => h)
  refine ⟨Nat.lt_of_lt_of_le hs hg.size, ?_, ?_⟩
  · rw [cell_of_block hb]
    unfold World.cell?
    simp only [alloc_new]
    rfl
  · rw [frz_of hb]
    unfold World.frozen?
    simp only [alloc_new]
    rfl
theorem keeps_alloc (hf : ∀ b o, F b o → b < w.heap.size) (o : Obj) : Keeps F w F (w.alloc o) :=
  ⟨fun _ _ h => h, fun b o' h => cell_of_block (alloc_old w o (hf b o' h)) o'⟩
theorem grow_end (hf : ∀ b o, F b o → b < w.heap.size) (hg : Grow (fun _ => False) F (w.alloc (.cells #[.int .i64 0] 33)) F' w2) {w' : World} (h1 : ∀ b, b < w.heap.size → w'.heap[b]? = w2.heap[b]?) (hs : w2.heap.size ≤ w'.heap.size) (ho : w'.os = w2.os) (ht : w'.tape = w2.tape) (hp : w'.output = w2.output) : Grow O F w F w' := by
  have hsz : w.heap.size < (w.alloc (.cells #[.int .i64 0] 33)).heap.size := by rw [alloc_size]; omega
  have h2 := hg.size
  refine ⟨fun _ _ h => h, fun _ _ h => .inl h, fun b o h => ?_, by omega, fun b hb _ => ?_, ho.trans hg.os, ht.trans hg.tape, hp.trans hg.output⟩
  · have := hf b o h
    omega
  · rw [h1 b hb, hg.block b (by omega) (fun h => h), alloc_old w _ hb]
end
theorem spec65_pan {g : Nat} {cap : List DV} {x : Int} (hg : SpecP Tryz.prog g cap (verdD x)) : Spec Tryz.prog 65 [.fz (.fn g cap)] (.fz (.int .i64 x)) := by
  refine ⟨by kernel_rfl, fun F w vs hf hargs _ => ?_⟩
  obtain ⟨arr, rfl, hc⟩ := fn_arg hargs
  have hk := keeps_alloc hf (.cells #[.int .i64 0] 33)
  have hcall := hg.2 F (w.alloc (.cells #[.int .i64 0] 33)) arr (fun b o h => Nat.lt_of_lt_of_le (hf b o h) (by rw [alloc_size]; omega)) (RFs_iff.1 (RFs.mono hk _ _ hc))
  refine (decided_walk_pan (x := x) (R := fun w2 => ∃ F', Grow (fun _ => False) F (w.alloc (.cells #[.int .i64 0] 33)) F' w2) (hcall.mono ?_) (fun w => run_callFunc hg.1 arr)).mono ?_
  · rintro e w2 ⟨v, F', rfl, h1, h2⟩
    obtain ⟨h3, h4, h5⟩ := new_cell h1
    rw [verd_of h2]
    exact ⟨rfl, ⟨F', h1⟩, h3, h4, h5⟩
  · rintro e w' ⟨rfl, w1, ⟨F', h1⟩, rfl⟩
    have h3 := (new_cell h1).1
    refine ⟨_, F, rfl, grow_end hf h1 (fun b hb => ?_) ?_ rfl rfl rfl, by show RF _ _ _ _; rw [RF]⟩
    · rw [set_other _ _ _ (Nat.ne_of_lt hb), alloc_old _ _ (by omega)]
    · rw [show ((w1.alloc (.cells #[.int .i64 x] 107)).setCell ⟨w.heap.size, 0, none⟩ (.int .i64 x)).heap.size = (w1.alloc (.cells #[.int .i64 x] 107)).heap.size by simp [World.setCell], alloc_size]
      omega
theorem spec65_ret {g : Nat} {cap : List DV} (hg : Spec Tryz.prog g (cap.map .fz) (.fz (.tup []))) : Spec Tryz.prog 65 [.fz (.fn g cap)] (.fz (.int .i64 0)) := by
  refine ⟨by kernel_rfl, fun F w vs hf hargs _ => ?_⟩
  obtain ⟨arr, rfl, hc⟩ := fn_arg hargs
  have hk := keeps_alloc hf (.cells #[.int .i64 0] 33)
  have hno : ∀ (i : Nat) e sz xs, (cap.map RK.fz)[i]? ≠ some (.own e sz xs) := by
    intro i e sz xs h1
    rw [List.getElem?_map] at h1
    cases hd : cap[i]? <;> simp [hd] at h1
  have hcall := hg.2 F (w.alloc (.cells #[.int .i64 0] 33)) arr (fun b o h => Nat.lt_of_lt_of_le (hf b o h) (by rw [alloc_size]; omega)) ((RFs_iff.1 (RFs.mono hk _ _ hc)).map RK.fz fun _ _ hh => hh) (fun i j e sz xs _ _ _ _ _ _ h1 => absurd h1 (hno i e sz xs))
  have hO : ∀ b, ¬ ownB (cap.map .fz) arr.toList b := fun b ⟨i, e, sz, xs, _, h1, _⟩ => hno i e sz xs h1
  refine (decided_walk_ret (R := fun w2 => ∃ F', Grow (fun _ => False) F (w.alloc (.cells #[.int .i64 0] 33)) F' w2) (hcall.mono ?_) (fun w => run_callFunc hg.1 arr)).mono ?_
  · rintro e w2 ⟨v, F', rfl, h1, h2⟩
    have h1 : Grow (fun _ => False) F (w.alloc (.cells #[.int .i64 0] 33)) F' w2 :=
      ⟨h1.sub, fun b o hb => (h1.new b o hb).imp id fun h => h.imp id fun h => hO b h, h1.fwf, h1.size, fun b hb _ => h1.block b hb (hO b), h1.os, h1.tape, h1.output⟩
    obtain ⟨h3, h4, h5⟩ := new_cell h1
    have h2 : RF F' w2 (.tup []) v := h2
    rw [RF] at h2
    obtain ⟨a2, rfl, h6⟩ := h2
    rw [RFs] at h6
    have : a2 = #[] := by apply Array.ext'; simpa using h6
    subst this
    exact ⟨rfl, ⟨F', h1⟩, h3, h4, h5⟩
  · rintro e w' ⟨rfl, w1, ⟨F', h1⟩, rfl⟩
    have h3 := (new_cell h1).1
    refine ⟨_, F, rfl, grow_end hf h1 (fun b hb => ?_) ?_ rfl rfl rfl, by show RF _ _ _ _; rw [RF]⟩
    · rw [set_other _ _ _ (Nat.ne_of_lt hb)]
    · simp [World.setCell]
theorem specP70 (x : Int) : SpecP Tryz.prog 70 [.int .i64 x] (verdD x) := by
  refine ⟨by kernel_rfl, fun F w vs hf hargs => ?_⟩
  obtain ⟨v, r, e, h1, h2⟩ := hargs
  rw [RF] at h1
  have h2 : r = [] := h2
  subst h1 h2
  obtain rfl : vs = #[.int .i64 x] := by apply Array.ext'; simpa using e
  refine (decide_walk x w).mono ?_
  rintro e w' ⟨rfl, rfl⟩
  exact ⟨_, F, rfl, ⟨fun _ _ h => h, fun _ _ h => .inl h, hf, Nat.le_refl _, fun _ _ _ => rfl, rfl, rfl, rfl⟩, verd_RF _ _ x⟩
end Go.Proofs.YtcolebkklojccaaGreat.E
