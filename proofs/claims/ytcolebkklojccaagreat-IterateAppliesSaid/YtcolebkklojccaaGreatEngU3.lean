/-
  The engine, part U3: where a walk branches it waits; neither way is looked at before the walk is parted.
-/
import Derived.Test.YtcolebkklojccaaGreatEngU2
set_option linter.unusedVariables false
set_option linter.unusedSimpArgs false
namespace Go.Proofs.YtcolebkklojccaaGreat.E
open Go
/-- a fact that is not to be used by itself -/
structure Hd (p : Prop) : Prop where
  out : p
theorem eq_in {α : Type} {a b : α} (h : a = b) : a = b := h
theorem wrap_in {i : Int} (h0 : -9223372036854775808 ≤ i) (h1 : i < 9223372036854775808) : IntKind.i64.wrap i = i := by
  simp only [IntKind.wrap, IntKind.signed, IntKind.bits]
  simp
  omega
theorem wrap_nat {n : Nat} (h : n ≤ maxLen) : IntKind.i64.wrap (n : Int) = n := by
  simp only [maxLen] at h
  exact wrap_in (by omega) (by omega)
/-- the element at the place where a list is cut -/
theorem cutD {α : Type} (f : α → List DV) {es pre : List α} {x : α} {rest : List α} (h : es = pre ++ x :: rest) : (es.map f).getD pre.length [] = f x := by
  subst h
  simp [List.getD]
theorem cutD1 {α : Type} (f : α → List DV) {es pre : List (α × α)} {x : α × α} {rest : List (α × α)} (h : es = pre ++ x :: rest) : ((es.map Prod.fst).map f).getD pre.length [] = f x.1 := by
  subst h
  simp [List.getD]
theorem cutD2 {α : Type} (f : α → List DV) {es pre : List (α × α)} {x : α × α} {rest : List (α × α)} (h : es = pre ++ x :: rest) : ((es.map Prod.snd).map f).getD pre.length [] = f x.2 := by
  subst h
  simp [List.getD]
theorem cut_lt {α : Type} {es pre : List α} {x : α} {rest : List α} (h : es = pre ++ x :: rest) : (pre.length : Int) < (es.length : Int) := by
  subst h
  simp
  omega
theorem cut_lt' {α : Type} {es pre : List α} {x : α} {rest : List α} (h : es = pre ++ x :: rest) : pre.length < es.length := by
  subst h
  simp
theorem cut_snoc {α : Type} {es pre : List α} {x : α} {rest : List α} (h : es = pre ++ x :: rest) : es = (pre ++ [x]) ++ rest := by
  subst h
  simp
section
variable {P : Program} {K : DV → Prop} {p A B : Prop}
def kIte (p A B : Prop) : Prop := (p → A) ∧ (¬p → B)
theorem c_ite {p' : Prop} (h : nf p = p') : kIte p A B = kIte p' A B := by cases h; rfl
theorem i_T : kIte True A B = A := by simp [kIte]
theorem i_F : kIte False A B = B := by simp [kIte]
theorem i_N : kIte (¬p) A B = kIte p B A := by
  unfold kIte
  by_cases h : p <;> simp [h]
theorem i_cond (b : Bool) : kCond (.bool b) A B = kIte (b = true) A B := by cases b <;> simp [kCond, kIte]
theorem i_gT (b : Bool) : kGv (.bool b) true A B = kIte (b = true) A B := by cases b <;> simp [kGv, kIte]
theorem i_gF (b : Bool) : kGv (.bool b) false A B = kIte (b = true) B A := by cases b <;> simp [kGv, kIte]
theorem i_pick (c : Bool) (a b : DV) : kPick (.bool c) a b K = kIte (c = true) (K a) (K b) := by cases c <;> simp [kPick, kIte]
theorem of_kSpec {f : Nat} {ds : List DV} {dst : Option Nat} {s : DS} {KS : DS → Prop} (h : kSpec P f ds dst s KS) : kSpec P f ds dst s KS := h
theorem of_kSpecO {f : Nat} {ds : List DV} {dst : Option Nat} {s : DS} {KS : DS → Prop} (h : kSpecO P f ds dst s KS) : kSpecO P f ds dst s KS := h
theorem of_kSpecP {f : Nat} {ds : List DV} {dst : Option Nat} {s : DS} {KS : DS → Prop} {Z : DV → DS → Prop} (h : kSpecP P f ds dst s KS Z) : kSpecP P f ds dst s KS Z := h
theorem callO_ow {f : Nat} {as : List RK} {ks : List Nat} {ds : List DV} {dst : Option Nat} {s : DS} {KS : DS → Prop} {e sz t : Nat} {xs : List (List DV)} (h : Spec P f as (.own e sz xs)) (hk : KArgs s.mem ds as ks) (ht : dst = some t) (hK : kBind (some t) ⟨s.env, mdels ks s.mem⟩ KS (.ow t) (.vec e sz xs)) : kSpecO P f ds dst s KS :=
  ⟨as, ks, hk, .inr ⟨e, sz, xs, t, ht, h, by rw [ht]; exact hK⟩⟩
theorem callO_fz {f : Nat} {as : List RK} {ks : List Nat} {ds : List DV} {dst : Option Nat} {s : DS} {KS : DS → Prop} {d : DV} (h : Spec P f as (.fz d)) (hk : KArgs s.mem ds as ks) (hK : kPut dst ⟨s.env, mdels ks s.mem⟩ KS d) : kSpecO P f ds dst s KS :=
  ⟨as, ks, hk, .inl ⟨d, h, hK⟩⟩
theorem callP_ret {f : Nat} {ds : List DV} {dst : Option Nat} {s : DS} {KS : DS → Prop} {Z : DV → DS → Prop} (h : kSpec P f ds dst s KS) : kSpecP P f ds dst s KS Z := .inl h
theorem callP_pan {f : Nat} {ds : List DV} {dst : Option Nat} {s : DS} {KS : DS → Prop} {Z : DV → DS → Prop} {d : DV} (h : SpecP P f ds d) (hf : ds.all isFz = true) (hZ : Z d s) : kSpecP P f ds dst s KS Z := .inr ⟨hf, d, h, hZ⟩
theorem ite_in (h1 : p → A) (h2 : ¬p → B) : kIte p A B := ⟨h1, h2⟩
end
end Go.Proofs.YtcolebkklojccaaGreat.E
