/-
  Proved: the law 'LevelsSafe' returns true for every input, and each argument reads afterwards as it did. No condition.
-/
import Derived.Test.YthackanfbemabaaRows
import Derived.Test.YthackanfbemabaaRbJ
set_option linter.unusedVariables false
set_option linter.unusedSimpArgs false
namespace Go.Proofs.Ythackanfbemabaa.E
open Go Go.ChangeShapes Go.WideShapes Go.ChangeAt Go.RowKit
set_option linter.unusedVariables false
set_option linter.unusedSimpArgs false

theorem ty_pair {d : DV} (h : TypedA (.ag [.s, .s]) d) : ∃ a b, d = .agg [.str a, .str b] := by
  obtain ⟨ds, rfl, h1⟩ := h
  obtain ⟨_, _, rfl, h0, g0⟩ := ty_cons h1
  obtain ⟨_, _, rfl, h2, g1⟩ := ty_cons g0
  obtain ⟨a, rfl⟩ := t_s h0
  obtain ⟨b, rfl⟩ := t_s h2
  obtain rfl := ty_nil g1
  exact ⟨a, b, rfl⟩
namespace r12
set_option maxRecDepth 100000 in
theorem lifted (os : Os) (started : os.Started) (H : Type) (enc : TypeId × Value → H) :
    ReturnsInHanded {} Try.checked os 12 .any (Go.Proofs.Ythackanfbemabaa.Rows.levelsSafeSpec.pre6 enc Try.prog Try.f12 Go.Proofs.Ythackanfbemabaa.Rows.levelsSafeRow.domain false) (Go.Proofs.Ythackanfbemabaa.Rows.levelsSafeSpec.post enc Try.prog Try.f12 false true false false) := by
  refine returnsInHanded_of_change (C := Try.checked) own0 started (by kernel_rfl) Try.func12
    (ChangeSpec.witness6 (enc := enc) (C := Try.checked) false ⟨#[], #[.agg #[.slice none 0 0, .slice none 0 0, .int .i64 0, .int .i64 0, .int .i64 0, .int .i64 0, .int .i64 0, .int .i64 0, .int .i64 0], .agg #[.slice none 0 0, .slice none 0 0, .int .i64 0, .int .i64 0, .int .i64 0, .int .i64 0, .int .i64 0, .int .i64 0, .int .i64 0], .agg #[.string ⟨#[]⟩, .string ⟨#[]⟩]], []⟩ 8 (by kernel_rfl) (by kernel_rfl) (by kernel_rfl) (by kernel_rfl)) ?_
  intro W base args ds gs before hval hW _ _
  refine law_contract (n := 8) (ats := [.ag ctLv, .ag ctLv, .ag [.s, .s]]) (tb := 4) laid0 rfl ?_ rfl Try.underlying4 (by kernel_rfl) ?_ W base args ds gs before hval hW
  · intro ds h
    match ds, h with
    | [a, b, c], _ => rfl
  · intro dvs h
    obtain ⟨d0, d1, d2, rfl, h0, h1, h2⟩ := all2_3 h
    obtain ⟨v, rfl⟩ := ty_Lv h0
    obtain ⟨w, rfl⟩ := ty_Lv h1
    obtain ⟨a, b, rfl⟩ := ty_pair h2
    exact spec12 v w a b
theorem proved : Go.Proofs.Ythackanfbemabaa.Rows.LevelsSafeSaid :=
  OpenClaim.holds_of_wide 12 Try.f12 rfl rfl rfl rfl rfl rfl rfl ⟨rfl, rfl, rfl, rfl, rfl⟩ rfl rfl rfl rfl rfl (by kernel_rfl) Try.func12 (by kernel_rfl)
    (of_decide_eq_true (by kernel_rfl)) (by unfold Func.isWrapper; first | (rw [if_pos (by decide +kernel)]; kernel_rfl) | (rw [if_neg (by decide +kernel)]; exact ⟨rfl, rfl⟩))
    (fun os started H enc _ => lifted os started H enc)
end r12
end Go.Proofs.Ythackanfbemabaa.E
