/-
  OnY: walks of functions of the program at data level.
-/
import Derived.Test.YtcjlkbffmggekaaRows
import Derived.Test.YtcjlkbffmggekaaOnW
set_option linter.unusedVariables false
set_option linter.unusedSimpArgs false
namespace Go.Proofs.Ytcjlkbffmggekaa.E
open Go Go.ChangeShapes Go.WideShapes Go.ChangeAt Go.RowKit
set_option linter.unusedVariables false
set_option linter.unusedSimpArgs false

theorem own0 : ownKnob Try.prog.godebug = none := by kernel_rfl
theorem laid0 : laidOutB Try.prog = true := by kernel_rfl
theorem typed_list {T : Type} {enc : T → List DV} {l : List CT} (h : ∀ ds, Typeds l ds → ∃ t, ds = enc t) {d : DV} (hd : Typed (.sl l) d) : ∃ ts : List T, d = .sl (ctLen l) (ts.map enc) ∧ ts.length ≤ maxLen := by
  rw [Typed] at hd
  obtain ⟨xs, rfl, h1, h2⟩ := hd
  have : ∀ xs : List (List DV), (∀ x ∈ xs, Typeds l x) → ∃ ts : List T, xs = ts.map enc := by
    intro xs
    induction xs with
    | nil => exact fun _ => ⟨[], rfl⟩
    | cons x xs ih =>
      intro hx
      obtain ⟨t, ht⟩ := h x (hx x (by simp))
      obtain ⟨ts, hts⟩ := ih fun y hy => hx y (by simp [hy])
      exact ⟨t :: ts, by simp [ht, hts]⟩
  obtain ⟨ts, rfl⟩ := this xs h2
  exact ⟨ts, rfl, by simpa using h1⟩
theorem all2_1 {R : AT → DV → Prop} {a : AT} {ds : List DV} (h : All2 R [a] ds) : ∃ d, ds = [d] ∧ R a d := by
  obtain ⟨d, r, rfl, h1, h2⟩ := h
  cases h2
  exact ⟨d, rfl, h1⟩
theorem all2_2 {R : AT → DV → Prop} {a b : AT} {ds : List DV} (h : All2 R [a, b] ds) : ∃ d e, ds = [d, e] ∧ R a d ∧ R b e := by
  obtain ⟨d, r, rfl, h1, e, r', rfl, h2, h3⟩ := h
  cases h3
  exact ⟨d, e, rfl, h1, h2⟩
theorem all2_3 {R : AT → DV → Prop} {a b c : AT} {ds : List DV} (h : All2 R [a, b, c] ds) : ∃ d e f, ds = [d, e, f] ∧ R a d ∧ R b e ∧ R c f := by
  obtain ⟨d, r, rfl, h1, e, r', rfl, h2, f, r'', rfl, h3, h4⟩ := h
  cases h4
  exact ⟨d, e, f, rfl, h1, h2, h3⟩
theorem ty_int {k : IntKind} {d : DV} (h : TypedA (.c (.i k)) d) : ∃ n, d = .int k n := by
  rw [TypedA, Typed] at h
  obtain ⟨n, rfl, _⟩ := h
  exact ⟨n, rfl⟩
theorem ty_str {d : DV} (h : TypedA (.c .s) d) : ∃ s, d = .str s := by
  rw [TypedA, Typed] at h
  obtain ⟨n, rfl, _⟩ := h
  exact ⟨n, rfl⟩
theorem ty_cons {c : CT} {cs : List CT} {ds : List DV} (h : Typeds (c :: cs) ds) : ∃ d r, ds = d :: r ∧ Typed c d ∧ Typeds cs r := by
  rw [Typeds] at h
  exact h
theorem ty_nil {ds : List DV} (h : Typeds [] ds) : ds = [] := by
  rw [Typeds] at h
  exact h
theorem t_i {k : IntKind} {d : DV} (h : Typed (.i k) d) : ∃ n, d = .int k n := by
  rw [Typed] at h
  obtain ⟨n, rfl, _⟩ := h
  exact ⟨n, rfl⟩
theorem t_s {d : DV} (h : Typed .s d) : ∃ n, d = .str n := by
  rw [Typed] at h
  obtain ⟨n, rfl, _⟩ := h
  exact ⟨n, rfl⟩
theorem t_b {d : DV} (h : Typed .b d) : ∃ n, d = .bool n := by
  rw [Typed] at h
  obtain ⟨n, rfl⟩ := h
  exact ⟨n, rfl⟩
theorem t_sl {l : List CT} {d : DV} (h : Typed (.sl l) d) : ∃ xs, d = .sl (ctLen l) xs := by
  rw [Typed] at h
  obtain ⟨xs, rfl, _⟩ := h
  exact ⟨xs, rfl⟩
theorem t_w {k : IntKind} {d : DV} (h : Typed (.i k) d) : ∃ n, d = .int k n ∧ k.min ≤ n ∧ n ≤ k.max := by
  rw [Typed] at h
  obtain ⟨n, rfl, h⟩ := h
  simp only [Lit.wf, Bool.and_eq_true, decide_eq_true_eq] at h
  exact ⟨n, rfl, h.1, h.2⟩
theorem t_wi {d : DV} (h : Typed (.i .i64) d) : ∃ n, d = .int .i64 n ∧ -9223372036854775808 ≤ n ∧ n < 9223372036854775808 := by
  obtain ⟨n, rfl, h1, h2⟩ := t_w h
  refine ⟨n, rfl, ?_, ?_⟩
  · exact h1
  · have : (IntKind.i64.max : Int) = 9223372036854775807 := by decide
    omega
theorem ty_wi {d : DV} (h : TypedA (.c (.i .i64)) d) : ∃ n, d = .int .i64 n ∧ -9223372036854775808 ≤ n ∧ n < 9223372036854775808 := t_wi h
theorem ty_bool {d : DV} (h : TypedA (.c .b) d) : ∃ n, d = .bool n := t_b h
theorem all2_4 {R : AT → DV → Prop} {a b c d : AT} {ds : List DV} (h : All2 R [a, b, c, d] ds) : ∃ e f g i, ds = [e, f, g, i] ∧ R a e ∧ R b f ∧ R c g ∧ R d i := by
  obtain ⟨e, r, rfl, h1, f, r', rfl, h2, g, r'', rfl, h3, i, r3, rfl, h4, h5⟩ := h
  cases h5
  exact ⟨e, f, g, i, rfl, h1, h2, h3, h4⟩
def ctOT : List CT := [.s, .s, .i .i64, .i .i64]
theorem tyOT (ds : List DV) (h : Typeds ctOT ds) : ∃ t, ds = encOT t := by
  unfold ctOT at h
  obtain ⟨_, _, rfl, h0, g0⟩ := ty_cons h
  obtain ⟨a0, rfl⟩ := t_s h0
  obtain ⟨_, _, rfl, h1, g1⟩ := ty_cons g0
  obtain ⟨a1, rfl⟩ := t_s h1
  obtain ⟨_, _, rfl, h2, g2⟩ := ty_cons g1
  obtain ⟨a2, rfl⟩ := t_i h2
  obtain ⟨_, _, rfl, h3, g3⟩ := ty_cons g2
  obtain ⟨a3, rfl⟩ := t_i h3
  obtain rfl := ty_nil g3
  exact ⟨⟨a0, a1, a2, a3⟩, rfl⟩
theorem ty_OT {d : DV} (h : TypedA (.ag ctOT) d) : ∃ t, d = .agg (encOT t) := by
  obtain ⟨ds, rfl, h1⟩ := h
  obtain ⟨v, rfl⟩ := tyOT ds h1
  exact ⟨v, rfl⟩
theorem ty_OTs {d : DV} (h : TypedA (.c (.sl ctOT)) d) : ∃ es : List OT, d = .sl 4 (es.map encOT) := by
  obtain ⟨es, rfl, _⟩ := typed_list tyOT h
  exact ⟨es, rfl⟩
theorem tyTwo {d : DV} (h : TypedA (.ag [.s, .s]) d) : ∃ a b, d = .agg [.str a, .str b] := by
  obtain ⟨ds, rfl, h⟩ := h
  simp only [Typeds, Typed] at h
  obtain ⟨_, _, rfl, ⟨a, rfl, _⟩, _, _, rfl, ⟨b, rfl, _⟩, rfl⟩ := h
  exact ⟨a, b, rfl⟩
end Go.Proofs.Ytcjlkbffmggekaa.E
