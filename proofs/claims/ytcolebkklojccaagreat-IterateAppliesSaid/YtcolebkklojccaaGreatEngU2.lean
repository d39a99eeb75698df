/-
  The engine, part U2: a loop unrolled; a loop by a relation, its end of a round kept closed.
-/
import Derived.Test.YtcolebkklojccaaGreatEngV
set_option linter.unusedVariables false
set_option linter.unusedSimpArgs false
namespace Go.Proofs.YtcolebkklojccaaGreat.E
open Go
section
variable {P : Program} {Q : AE → DS → Prop} {c : AC}
def unr (P : Program) (c : AC) (Q : AE → DS → Prop) (n : Nat) (s : DS) : Prop := dwp P c s (kLoop (fun s' => ∃ m ts ks, ∃ _ : m < n, unr P c Q m (forget ts ks s')) Q)
  termination_by n
/-- the end of a round -/
def kNx (P : Program) (c : AC) (Q : AE → DS → Prop) (n : Nat) (s : DS) : Prop := ∃ m ts ks, m < n ∧ unr P c Q m (forget ts ks s)
theorem e_unr (k : Nat) (s : DS) : unr P c Q (k + 1) s = dwp P c s (kLoop (kNx P c Q (k + 1)) Q) := by
  rw [unr]
  simp only [exists_prop]
  rfl
theorem c_unr {k : Nat} {s s' : DS} (h : nf s = s') : unr P c Q k s = unr P c Q k s' := by cases h; rfl
theorem c_nx {k : Nat} {s s' : DS} (h : nf s = s') : kNx P c Q k s = kNx P c Q k s' := by cases h; rfl
/-- a loop whose rounds are counted ahead -/
theorem loop_u (k : Nat) {E : List DV} {M : Mem} (h : unr P c Q k (forget [] [] ⟨E, M⟩)) : dwp P (.loop c) ⟨E, M⟩ Q := by
  refine ⟨fun n s => unr P c Q n s, k, [], [], h, ?_⟩
  intro n s hs
  rw [unr] at hs
  simpa only [exists_prop] using hs
theorem unr_next {k : Nat} {s' : DS} (h : unr P c Q k (forget [] [] s')) : kNx P c Q (k + 1) s' := ⟨k, [], [], Nat.lt_succ_self k, h⟩

/-- the end of a round of a loop that goes by a relation -/
def kBk {X : Type} (R : Nat → X → Prop) (st : X → DS) (n : Nat) (s' : DS) : Prop := ∃ m ts ks, m < n ∧ ∃ x', R m x' ∧ forget ts ks s' = st x'
theorem c_bk {X : Type} {R : Nat → X → Prop} {st : X → DS} {n : Nat} {s s' : DS} (h : nf s = s') : kBk R st n s = kBk R st n s' := by cases h; rfl
theorem back_in {X : Type} {R : Nat → X → Prop} {st : X → DS} {n : Nat} {s : DS} (m : Nat) (ts ks : List Nat) (x : X) (hm : m < n) (hR : R m x) (h : forget ts ks s = st x) : kBk R st n s := ⟨m, ts, ks, hm, x, hR, h⟩
theorem loop_q {X : Type} {c : AC} {E : List DV} {M : Mem} (R : Nat → X → Prop) (pe : X → List (Nat × DV)) (pm : X → List (Nat × Blk)) (ts0 ks : List Nat) (n0 : Nat) (x0 : X) (hR : R n0 x0)
    (h0 : forget ts0 ks ⟨E, M⟩ = ⟨pE (pe x0) (forgetE ts0 E), pM (pm x0) (msort (mdels ks M))⟩)
    (hr : ∀ n x, R n x → dwp P c ⟨pE (pe x) (forgetE ts0 E), pM (pm x) (msort (mdels ks M))⟩
      (kLoop (kBk R (fun x => ⟨pE (pe x) (forgetE ts0 E), pM (pm x) (msort (mdels ks M))⟩) n) Q)) : dwp P (.loop c) ⟨E, M⟩ Q :=
  loop_p R pe pm ts0 ks n0 x0 hR h0 hr
end
end Go.Proofs.YtcolebkklojccaaGreat.E
