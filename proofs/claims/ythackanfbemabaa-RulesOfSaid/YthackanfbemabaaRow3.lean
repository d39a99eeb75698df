/-
  Proved: the law 'RulesOf' returns true for every input, and each argument reads afterwards as it did. No condition.
-/
import Derived.Test.YthackanfbemabaaRows
import Derived.Test.YthackanfbemabaaRbI
import Derived.Test.YthackanfbemabaaRcD
set_option linter.unusedVariables false
set_option linter.unusedSimpArgs false
namespace Go.Proofs.Ythackanfbemabaa.E
open Go Go.ChangeShapes Go.WideShapes Go.ChangeAt Go.RowKit
set_option linter.unusedVariables false
set_option linter.unusedSimpArgs false
namespace r3
set_option maxRecDepth 100000 in
theorem lifted (os : Os) (started : os.Started) (H : Type) (enc : TypeId × Value → H) :
    ReturnsInHanded {} Try.checked os 3 .any (Go.Proofs.Ythackanfbemabaa.Rows.rulesOfSpec.pre6 enc Try.prog Try.f3 Go.Proofs.Ythackanfbemabaa.Rows.rulesOfRow.domain false) (Go.Proofs.Ythackanfbemabaa.Rows.rulesOfSpec.post enc Try.prog Try.f3 false true false false) := by
  refine returnsInHanded_of_change (C := Try.checked) own0 started (by kernel_rfl) Try.func3
    (ChangeSpec.witness6 (enc := enc) (C := Try.checked) false ⟨#[], #[.slice none 0 0], []⟩ 8 (by kernel_rfl) (by kernel_rfl) (by kernel_rfl) (by kernel_rfl)) ?_
  intro W base args ds gs before hval hW _ _
  refine law_contract (n := 8) (ats := [.c (.sl ctEv)]) (tb := 4) laid0 rfl ?_ rfl Try.underlying4 (by kernel_rfl) ?_ W base args ds gs before hval hW
  · intro ds h
    match ds, h with
    | [a], _ => rfl
  · intro dvs h
    obtain ⟨d0, rfl, h0⟩ := all2_1 h
    obtain ⟨es, rfl⟩ := ty_Evs h0
    exact spec3 es

theorem proved : Go.Proofs.Ythackanfbemabaa.Rows.RulesOfSaid :=
  OpenClaim.holds_of_wide 3 Try.f3 rfl rfl rfl rfl rfl rfl rfl ⟨rfl, rfl, rfl, rfl, rfl⟩ rfl rfl rfl rfl rfl (by kernel_rfl) Try.func3 (by kernel_rfl)
    (of_decide_eq_true (by kernel_rfl)) (by unfold Func.isWrapper; first | (rw [if_pos (by decide +kernel)]; kernel_rfl) | (rw [if_neg (by decide +kernel)]; exact ⟨rfl, rfl⟩))
    (fun os started H enc _ => lifted os started H enc)
end r3
end Go.Proofs.Ythackanfbemabaa.E
