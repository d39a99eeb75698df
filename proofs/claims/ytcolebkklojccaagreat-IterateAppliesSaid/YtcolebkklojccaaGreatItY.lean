/-
  ItY: walks of functions of the program at data level.
-/
import Derived.Test.YtcolebkklojccaaGreatRows
import Derived.Test.YtcolebkklojccaaGreatItI
set_option linter.unusedVariables false
set_option linter.unusedSimpArgs false
namespace Go.Proofs.YtcolebkklojccaaGreat.E
open Go Go.ChangeShapes Go.WideShapes Go.ChangeAt Go.RowKit
set_option linter.unusedVariables false
set_option linter.unusedSimpArgs false

theorem own0 : ownKnob Tryz.prog.godebug = none := by kernel_rfl
theorem laid0 : laidOutB Tryz.prog = true := by kernel_rfl
theorem typed_list {T : Type} {enc : T → List DV} {l : List CT} (h : ∀ ds, Typeds l ds → ∃ t, ds = enc t) {d : DV} (hd : Typed (.sl l) d) : ∃ ts : List T, d = .sl (ctLen l) (ts.map enc) ∧ ts.length ≤ maxLen := by
  rw [Typed] at hd
  obtain ⟨xs, rfl, h1, h2⟩ := hd
  have : ∀ xs : List (List DV), (∀ x ∈ xs, Typeds l x) → ∃ ts : List T, xs = ts.map enc := by
    intro xs
    induction xs with
    | nil => exact fun _ => ⟨[], rfl⟩
    | cons x xs ih =>
      intro hx
      obtain ⟨t, ht⟩ := h x (hx x (by simp))
      obtain ⟨ts, hts⟩ := ih fun y hy => hx y (by simp [hy])
      exact ⟨t :: ts, by simp [ht, hts]⟩
  obtain ⟨ts, rfl⟩ := this xs h2
  exact ⟨ts, rfl, by simpa using h1⟩
theorem all2_1 {R : AT → DV → Prop} {a : AT} {ds : List DV} (h : All2 R [a] ds) : ∃ d, ds = [d] ∧ R a d := by
  obtain ⟨d, r, rfl, h1, h2⟩ := h
  cases h2
  exact ⟨d, rfl, h1⟩
theorem all2_2 {R : AT → DV → Prop} {a b : AT} {ds : List DV} (h : All2 R [a, b] ds) : ∃ d e, ds = [d, e] ∧ R a d ∧ R b e := by
  obtain ⟨d, r, rfl, h1, e, r', rfl, h2, h3⟩ := h
  cases h3
  exact ⟨d, e, rfl, h1, h2⟩
theorem all2_3 {R : AT → DV → Prop} {a b c : AT} {ds : List DV} (h : All2 R [a, b, c] ds) : ∃ d e f, ds = [d, e, f] ∧ R a d ∧ R b e ∧ R c f := by
  obtain ⟨d, r, rfl, h1, e, r', rfl, h2, f, r'', rfl, h3, h4⟩ := h
  cases h4
  exact ⟨d, e, f, rfl, h1, h2, h3⟩
theorem ty_int {k : IntKind} {d : DV} (h : TypedA (.c (.i k)) d) : ∃ n, d = .int k n := by
  rw [TypedA, Typed] at h
  obtain ⟨n, rfl, _⟩ := h
  exact ⟨n, rfl⟩
theorem ty_str {d : DV} (h : TypedA (.c .s) d) : ∃ s, d = .str s := by
  rw [TypedA, Typed] at h
  obtain ⟨n, rfl, _⟩ := h
  exact ⟨n, rfl⟩
def ctLU : List CT := [.s, .i .i64]
def ctLK : List CT := [.i .i64, .i .i64]
def ctLv : List CT := [.sl ctLU, .sl ctLK, .i .i64, .i .i64, .i .i64, .i .i64, .i .i64, .i .i64, .i .i64]
def ctEv : List CT := [.i .i64, .s, .s, .i .i64, .b, .s, .i .i64, .i .i64, .sl [.i .i64], .sl [.i .i64], .s, .i .i64, .i .i64, .b, .s, .sl [.s], .sl [.s]] ++ ctLv ++ [.i .i64, .s, .i .i64]
theorem tyLU (ds : List DV) (h : Typeds ctLU ds) : ∃ t, ds = encLU t := by
  simp only [ctLU, Typeds, Typed] at h
  obtain ⟨_, _, rfl, ⟨a, rfl, _⟩, _, _, rfl, ⟨b, rfl, _⟩, rfl⟩ := h
  exact ⟨⟨a, b⟩, rfl⟩
theorem tyLK (ds : List DV) (h : Typeds ctLK ds) : ∃ t, ds = encLK t := by
  simp only [ctLK, Typeds, Typed] at h
  obtain ⟨_, _, rfl, ⟨a, rfl, _⟩, _, _, rfl, ⟨b, rfl, _⟩, rfl⟩ := h
  exact ⟨⟨a, b⟩, rfl⟩
theorem tyS (ds : List DV) (h : Typeds [.s] ds) : ∃ t, ds = encS t := by
  simp only [Typeds, Typed] at h
  obtain ⟨_, _, rfl, ⟨a, rfl, _⟩, rfl⟩ := h
  exact ⟨a, rfl⟩
theorem tyN (ds : List DV) (h : Typeds [.i .i64] ds) : ∃ t, ds = encN t := by
  simp only [Typeds, Typed] at h
  obtain ⟨_, _, rfl, ⟨a, rfl, _⟩, rfl⟩ := h
  exact ⟨a, rfl⟩
theorem ty_cons {c : CT} {cs : List CT} {ds : List DV} (h : Typeds (c :: cs) ds) : ∃ d r, ds = d :: r ∧ Typed c d ∧ Typeds cs r := by
  rw [Typeds] at h
  exact h
theorem ty_nil {ds : List DV} (h : Typeds [] ds) : ds = [] := by
  rw [Typeds] at h
  exact h
theorem t_i {k : IntKind} {d : DV} (h : Typed (.i k) d) : ∃ n, d = .int k n := by
  rw [Typed] at h
  obtain ⟨n, rfl, _⟩ := h
  exact ⟨n, rfl⟩
theorem t_s {d : DV} (h : Typed .s d) : ∃ n, d = .str n := by
  rw [Typed] at h
  obtain ⟨n, rfl, _⟩ := h
  exact ⟨n, rfl⟩
theorem t_b {d : DV} (h : Typed .b d) : ∃ n, d = .bool n := by
  rw [Typed] at h
  obtain ⟨n, rfl⟩ := h
  exact ⟨n, rfl⟩
theorem t_sl {l : List CT} {d : DV} (h : Typed (.sl l) d) : ∃ xs, d = .sl (ctLen l) xs := by
  rw [Typed] at h
  obtain ⟨xs, rfl, _⟩ := h
  exact ⟨xs, rfl⟩
theorem tyLv (ds : List DV) (h : Typeds ctLv ds) : ∃ t, ds = encLv t := by
  unfold ctLv at h
  obtain ⟨_, _, rfl, h0, g0⟩ := ty_cons h
  obtain ⟨_, _, rfl, h1, g1⟩ := ty_cons g0
  obtain ⟨us, rfl, _⟩ := typed_list tyLU h0
  obtain ⟨ks, rfl, _⟩ := typed_list tyLK h1
  obtain ⟨_, _, rfl, h2, g2⟩ := ty_cons g1
  obtain ⟨a2, rfl⟩ := t_i h2
  obtain ⟨_, _, rfl, h3, g3⟩ := ty_cons g2
  obtain ⟨a3, rfl⟩ := t_i h3
  obtain ⟨_, _, rfl, h4, g4⟩ := ty_cons g3
  obtain ⟨a4, rfl⟩ := t_i h4
  obtain ⟨_, _, rfl, h5, g5⟩ := ty_cons g4
  obtain ⟨a5, rfl⟩ := t_i h5
  obtain ⟨_, _, rfl, h6, g6⟩ := ty_cons g5
  obtain ⟨a6, rfl⟩ := t_i h6
  obtain ⟨_, _, rfl, h7, g7⟩ := ty_cons g6
  obtain ⟨a7, rfl⟩ := t_i h7
  obtain ⟨_, _, rfl, h8, g8⟩ := ty_cons g7
  obtain ⟨a8, rfl⟩ := t_i h8
  obtain rfl := ty_nil g8
  exact ⟨⟨us, ks, a2, a3, a4, a5, a6, a7, a8⟩, rfl⟩
theorem tyEv (ds : List DV) (h : Typeds ctEv ds) : ∃ t, ds = encEv t := by
  unfold ctEv ctLv at h
  simp only [List.cons_append, List.nil_append] at h
  obtain ⟨_, _, rfl, h0, g0⟩ := ty_cons h
  obtain ⟨a0, rfl⟩ := t_i h0
  obtain ⟨_, _, rfl, h1, g1⟩ := ty_cons g0
  obtain ⟨a1, rfl⟩ := t_s h1
  obtain ⟨_, _, rfl, h2, g2⟩ := ty_cons g1
  obtain ⟨a2, rfl⟩ := t_s h2
  obtain ⟨_, _, rfl, h3, g3⟩ := ty_cons g2
  obtain ⟨a3, rfl⟩ := t_i h3
  obtain ⟨_, _, rfl, h4, g4⟩ := ty_cons g3
  obtain ⟨a4, rfl⟩ := t_b h4
  obtain ⟨_, _, rfl, h5, g5⟩ := ty_cons g4
  obtain ⟨a5, rfl⟩ := t_s h5
  obtain ⟨_, _, rfl, h6, g6⟩ := ty_cons g5
  obtain ⟨a6, rfl⟩ := t_i h6
  obtain ⟨_, _, rfl, h7, g7⟩ := ty_cons g6
  obtain ⟨a7, rfl⟩ := t_i h7
  obtain ⟨_, _, rfl, h8, g8⟩ := ty_cons g7
  obtain ⟨a8, rfl, _⟩ := typed_list tyN h8
  obtain ⟨_, _, rfl, h9, g9⟩ := ty_cons g8
  obtain ⟨a9, rfl, _⟩ := typed_list tyN h9
  obtain ⟨_, _, rfl, h10, g10⟩ := ty_cons g9
  obtain ⟨a10, rfl⟩ := t_s h10
  obtain ⟨_, _, rfl, h11, g11⟩ := ty_cons g10
  obtain ⟨a11, rfl⟩ := t_i h11
  obtain ⟨_, _, rfl, h12, g12⟩ := ty_cons g11
  obtain ⟨a12, rfl⟩ := t_i h12
  obtain ⟨_, _, rfl, h13, g13⟩ := ty_cons g12
  obtain ⟨a13, rfl⟩ := t_b h13
  obtain ⟨_, _, rfl, h14, g14⟩ := ty_cons g13
  obtain ⟨a14, rfl⟩ := t_s h14
  obtain ⟨_, _, rfl, h15, g15⟩ := ty_cons g14
  obtain ⟨a15, rfl, _⟩ := typed_list tyS h15
  obtain ⟨_, _, rfl, h16, g16⟩ := ty_cons g15
  obtain ⟨a16, rfl, _⟩ := typed_list tyS h16
  obtain ⟨_, _, rfl, h17, g17⟩ := ty_cons g16
  obtain ⟨a17, rfl, _⟩ := typed_list tyLU h17
  obtain ⟨_, _, rfl, h18, g18⟩ := ty_cons g17
  obtain ⟨a18, rfl, _⟩ := typed_list tyLK h18
  obtain ⟨_, _, rfl, h19, g19⟩ := ty_cons g18
  obtain ⟨a19, rfl⟩ := t_i h19
  obtain ⟨_, _, rfl, h20, g20⟩ := ty_cons g19
  obtain ⟨a20, rfl⟩ := t_i h20
  obtain ⟨_, _, rfl, h21, g21⟩ := ty_cons g20
  obtain ⟨a21, rfl⟩ := t_i h21
  obtain ⟨_, _, rfl, h22, g22⟩ := ty_cons g21
  obtain ⟨a22, rfl⟩ := t_i h22
  obtain ⟨_, _, rfl, h23, g23⟩ := ty_cons g22
  obtain ⟨a23, rfl⟩ := t_i h23
  obtain ⟨_, _, rfl, h24, g24⟩ := ty_cons g23
  obtain ⟨a24, rfl⟩ := t_i h24
  obtain ⟨_, _, rfl, h25, g25⟩ := ty_cons g24
  obtain ⟨a25, rfl⟩ := t_i h25
  obtain ⟨_, _, rfl, h26, g26⟩ := ty_cons g25
  obtain ⟨a26, rfl⟩ := t_i h26
  obtain ⟨_, _, rfl, h27, g27⟩ := ty_cons g26
  obtain ⟨a27, rfl⟩ := t_s h27
  obtain ⟨_, _, rfl, h28, g28⟩ := ty_cons g27
  obtain ⟨a28, rfl⟩ := t_i h28
  obtain rfl := ty_nil g28
  exact ⟨⟨a0, a1, a2, a3, a4, a5, a6, a7, a8, a9, a10, a11, a12, a13, a14, a15, a16, ⟨a17, a18, a19, a20, a21, a22, a23, a24, a25⟩, a26, a27, a28⟩, rfl⟩
theorem ty_Ev {d : DV} (h : TypedA (.ag ctEv) d) : ∃ v, d = .agg (encEv v) := by
  obtain ⟨ds, rfl, h1⟩ := h
  obtain ⟨v, rfl⟩ := tyEv ds h1
  exact ⟨v, rfl⟩
theorem ty_Evs {d : DV} (h : TypedA (.c (.sl ctEv)) d) : ∃ es : List Ev, d = .sl 29 (es.map encEv) := by
  obtain ⟨es, rfl, _⟩ := typed_list tyEv h
  exact ⟨es, rfl⟩
def ctEnt : List CT := [.i .i64, .s, .i .i64]
theorem tyEnt (ds : List DV) (h : Typeds ctEnt ds) : ∃ t, ds = encEnt t := by
  unfold ctEnt at h
  obtain ⟨_, _, rfl, h0, g0⟩ := ty_cons h
  obtain ⟨a0, rfl⟩ := t_i h0
  obtain ⟨_, _, rfl, h1, g1⟩ := ty_cons g0
  obtain ⟨a1, rfl⟩ := t_s h1
  obtain ⟨_, _, rfl, h2, g2⟩ := ty_cons g1
  obtain ⟨a2, rfl⟩ := t_i h2
  obtain rfl := ty_nil g2
  exact ⟨⟨a0, a1, a2⟩, rfl⟩
theorem ty_Ents {d : DV} (h : TypedA (.c (.sl ctEnt)) d) : ∃ l : List Ent, d = .sl 3 (l.map encEnt) := by
  obtain ⟨l, rfl, _⟩ := typed_list tyEnt h
  exact ⟨l, rfl⟩
theorem ty_Ints {d : DV} (h : TypedA (.c (.sl [.i .i64])) d) : ∃ l : List Int, d = .sl 1 (l.map encN) := by
  obtain ⟨l, rfl, _⟩ := typed_list tyN h
  exact ⟨l, rfl⟩
end Go.Proofs.YtcolebkklojccaaGreat.E
