/-
  Proved: the law 'FilterParts' returns true for every input, and each argument reads afterwards as it did. No condition.
-/
import Derived.Test.YtamcbdflmephdaaRows
import Derived.Test.YtamcbdflmephdaaFiB
import Derived.Test.YtamcbdflmephdaaFiC8
set_option linter.unusedVariables false
set_option linter.unusedSimpArgs false
namespace Go.Proofs.Ytamcbdflmephdaa.E
open Go Go.ChangeShapes Go.WideShapes Go.ChangeAt Go.RowKit
set_option linter.unusedVariables false
set_option linter.unusedSimpArgs false
namespace r8
set_option maxRecDepth 100000 in
theorem lifted (os : Os) (started : os.Started) (H : Type) (enc : TypeId × Value → H) :
    ReturnsInHanded {} Try.checked os 8 .any (Go.Proofs.Ytamcbdflmephdaa.Rows.filterPartsSpec.pre6 enc Try.prog Try.f8 Go.Proofs.Ytamcbdflmephdaa.Rows.filterPartsRow.domain false) (Go.Proofs.Ytamcbdflmephdaa.Rows.filterPartsSpec.post enc Try.prog Try.f8 false true false false) := by
  refine returnsInHanded_of_change (C := Try.checked) own0 started (by kernel_rfl) Try.func8
    (ChangeSpec.witness6 (enc := enc) (C := Try.checked) false ⟨#[], #[.agg #[.slice none 0 0, .slice none 0 0, .slice none 0 0, .int .i64 0, .bool false], .slice none 0 0], []⟩ 8 (by kernel_rfl) (by kernel_rfl) (by kernel_rfl) (by kernel_rfl)) ?_
  intro W base args ds gs before hval hW _ _
  refine law_contract (n := 24) (ats := [.ag ctFl, .c (.sl ctEv)]) (tb := 4) laid0 rfl ?_ rfl Try.underlying4 (by kernel_rfl) ?_ W base args ds gs before hval hW
  · intro ds h
    match ds, h with
    | [a, b], _ => rfl
  · intro dvs h
    obtain ⟨d0, d1, rfl, h0, h1⟩ := all2_2 h
    obtain ⟨p, rfl⟩ := ty_Fl h0
    obtain ⟨l, rfl⟩ := ty_Evs h1
    exact spec8 p l

theorem proved : Go.Proofs.Ytamcbdflmephdaa.Rows.FilterPartsSaid :=
  OpenClaim.holds_of_wide 8 Try.f8 rfl rfl rfl rfl rfl rfl rfl ⟨rfl, rfl, rfl, rfl, rfl⟩ rfl rfl rfl rfl rfl (by kernel_rfl) Try.func8 (by kernel_rfl)
    (of_decide_eq_true (by kernel_rfl)) (by unfold Func.isWrapper; first | (rw [if_pos (by decide +kernel)]; kernel_rfl) | (rw [if_neg (by decide +kernel)]; exact ⟨rfl, rfl⟩))
    (fun os started H enc _ => lifted os started H enc)
end r8
end Go.Proofs.Ytamcbdflmephdaa.E
