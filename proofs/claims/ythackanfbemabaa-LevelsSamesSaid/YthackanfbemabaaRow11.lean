/-
  Proved: the law 'LevelsSames' returns true for every input, and each argument reads afterwards as it did. No condition.
-/
import Derived.Test.YthackanfbemabaaRows
import Derived.Test.YthackanfbemabaaRbI
set_option linter.unusedVariables false
set_option linter.unusedSimpArgs false
namespace Go.Proofs.Ythackanfbemabaa.E
open Go Go.ChangeShapes Go.WideShapes Go.ChangeAt Go.RowKit
set_option linter.unusedVariables false
set_option linter.unusedSimpArgs false
namespace r11
set_option maxRecDepth 100000 in
theorem lifted (os : Os) (started : os.Started) (H : Type) (enc : TypeId × Value → H) :
    ReturnsInHanded {} Try.checked os 11 .any (Go.Proofs.Ythackanfbemabaa.Rows.levelsSamesSpec.pre6 enc Try.prog Try.f11 Go.Proofs.Ythackanfbemabaa.Rows.levelsSamesRow.domain false) (Go.Proofs.Ythackanfbemabaa.Rows.levelsSamesSpec.post enc Try.prog Try.f11 false true false false) := by
  refine returnsInHanded_of_change (C := Try.checked) own0 started (by kernel_rfl) Try.func11
    (ChangeSpec.witness6 (enc := enc) (C := Try.checked) false ⟨#[], #[.agg #[.slice none 0 0, .slice none 0 0, .int .i64 0, .int .i64 0, .int .i64 0, .int .i64 0, .int .i64 0, .int .i64 0, .int .i64 0], .agg #[.slice none 0 0, .slice none 0 0, .int .i64 0, .int .i64 0, .int .i64 0, .int .i64 0, .int .i64 0, .int .i64 0, .int .i64 0]], []⟩ 8 (by kernel_rfl) (by kernel_rfl) (by kernel_rfl) (by kernel_rfl)) ?_
  intro W base args ds gs before hval hW _ _
  refine law_contract (n := 8) (ats := [.ag ctLv, .ag ctLv]) (tb := 4) laid0 rfl ?_ rfl Try.underlying4 (by kernel_rfl) ?_ W base args ds gs before hval hW
  · intro ds h
    match ds, h with
    | [a, b], _ => rfl
  · intro dvs h
    obtain ⟨d0, d1, rfl, h0, h1⟩ := all2_2 h
    obtain ⟨v, rfl⟩ := ty_Lv h0
    obtain ⟨w, rfl⟩ := ty_Lv h1
    exact spec11 v w
theorem proved : Go.Proofs.Ythackanfbemabaa.Rows.LevelsSamesSaid :=
  OpenClaim.holds_of_wide 11 Try.f11 rfl rfl rfl rfl rfl rfl rfl ⟨rfl, rfl, rfl, rfl, rfl⟩ rfl rfl rfl rfl rfl (by kernel_rfl) Try.func11 (by kernel_rfl)
    (of_decide_eq_true (by kernel_rfl)) (by unfold Func.isWrapper; first | (rw [if_pos (by decide +kernel)]; kernel_rfl) | (rw [if_neg (by decide +kernel)]; exact ⟨rfl, rfl⟩))
    (fun os started H enc _ => lifted os started H enc)
end r11
end Go.Proofs.Ythackanfbemabaa.E
