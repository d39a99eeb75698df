/-
  Proved: the law 'MediaOwn' returns true for every input, and each argument reads afterwards as it did. No condition.
-/
import Derived.Test.YtfcjmblhcakhaaaRows
import Derived.Test.YtfcjmblhcakhaaaMdY
import Derived.Test.YtfcjmblhcakhaaaMdR
set_option linter.unusedVariables false
set_option linter.unusedSimpArgs false
namespace Go.Proofs.Ytfcjmblhcakhaaa.E
open Go Go.ChangeShapes Go.WideShapes Go.ChangeAt Go.RowKit
set_option linter.unusedVariables false
set_option linter.unusedSimpArgs false
namespace r8
set_option maxRecDepth 100000 in
theorem lifted (os : Os) (started : os.Started) (H : Type) (enc : TypeId × Value → H) :
    ReturnsInHanded {} Try.checked os 8 .any (Go.Proofs.Ytfcjmblhcakhaaa.Rows.mediaOwnSpec.pre6 enc Try.prog Try.f8 Go.Proofs.Ytfcjmblhcakhaaa.Rows.mediaOwnRow.domain false) (Go.Proofs.Ytfcjmblhcakhaaa.Rows.mediaOwnSpec.post enc Try.prog Try.f8 false true false false) := by
  refine returnsInHanded_of_change (C := Try.checked) own0 started (by kernel_rfl) Try.func8
    (ChangeSpec.witness6 (enc := enc) (C := Try.checked) false ⟨#[], #[.slice none 0 0, .agg #[.string ⟨#[]⟩, .string ⟨#[]⟩, .string ⟨#[]⟩, .int .i64 0, .int .i64 0]], []⟩ 8 (by kernel_rfl) (by kernel_rfl) (by kernel_rfl) (by kernel_rfl)) ?_
  intro W base args ds gs before hval hW _ _
  refine law_contract (n := 8) (ats := [.c (.sl ctMd), .ag ctAsk]) (tb := 4) laid0 rfl ?_ rfl Try.underlying4 (by kernel_rfl) ?_ W base args ds gs before hval hW
  · intro ds h
    match ds, h with
    | [a, b], _ => rfl
  · intro dvs h
    obtain ⟨d0, d1, rfl, h0, h1⟩ := all2_2 h
    obtain ⟨l, rfl⟩ := ty_Mds h0
    obtain ⟨a, rfl, w1⟩ := ty_Ask h1
    exact spec8 l a w1.1 w1.2
theorem proved : Go.Proofs.Ytfcjmblhcakhaaa.Rows.MediaOwnSaid :=
  OpenClaim.holds_of_wide 8 Try.f8 rfl rfl rfl rfl rfl rfl rfl ⟨rfl, rfl, rfl, rfl, rfl⟩ rfl rfl rfl rfl rfl (by kernel_rfl) Try.func8 (by kernel_rfl)
    (of_decide_eq_true (by kernel_rfl)) (by unfold Func.isWrapper; first | (rw [if_pos (by decide +kernel)]; kernel_rfl) | (rw [if_neg (by decide +kernel)]; exact ⟨rfl, rfl⟩))
    (fun os started H enc _ => lifted os started H enc)
end r8
end Go.Proofs.Ytfcjmblhcakhaaa.E
