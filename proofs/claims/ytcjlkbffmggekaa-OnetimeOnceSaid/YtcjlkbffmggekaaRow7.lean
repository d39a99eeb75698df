/-
  Proved: the law 'OnetimeOnce' returns true for every input, and each argument reads afterwards as it did. No condition.
-/
import Derived.Test.YtcjlkbffmggekaaRows
import Derived.Test.YtcjlkbffmggekaaOnX
set_option linter.unusedVariables false
set_option linter.unusedSimpArgs false
namespace Go.Proofs.Ytcjlkbffmggekaa.E
open Go Go.ChangeShapes Go.WideShapes Go.ChangeAt Go.RowKit
set_option linter.unusedVariables false
set_option linter.unusedSimpArgs false
namespace r7
set_option maxRecDepth 100000 in
theorem lifted (os : Os) (started : os.Started) (H : Type) (enc : TypeId × Value → H) :
    ReturnsInHanded {} Try.checked os 7 .any (Go.Proofs.Ytcjlkbffmggekaa.Rows.onetimeOnceSpec.pre6 enc Try.prog Try.f7 Go.Proofs.Ytcjlkbffmggekaa.Rows.onetimeOnceRow.domain false) (Go.Proofs.Ytcjlkbffmggekaa.Rows.onetimeOnceSpec.post enc Try.prog Try.f7 false true false false) := by
  refine returnsInHanded_of_change (C := Try.checked) own0 started (by kernel_rfl) Try.func7
    (ChangeSpec.witness6 (enc := enc) (C := Try.checked) false ⟨#[], #[.slice none 0 0], []⟩ 8 (by kernel_rfl) (by kernel_rfl) (by kernel_rfl) (by kernel_rfl)) ?_
  intro W base args ds gs before hval hW _ _
  refine law_contract (n := 8) (ats := [.c (.sl ctStp)]) (tb := 4) laid0 rfl ?_ rfl Try.underlying4 (by kernel_rfl) ?_ W base args ds gs before hval hW
  · intro ds h
    match ds, h with
    | [a], _ => rfl
  · intro dvs h
    obtain ⟨d0, rfl, h0⟩ := all2_1 h
    obtain ⟨ss, rfl⟩ := ty_Stps h0
    exact spec7 ss

theorem proved : Go.Proofs.Ytcjlkbffmggekaa.Rows.OnetimeOnceSaid :=
  OpenClaim.holds_of_wide 7 Try.f7 rfl rfl rfl rfl rfl rfl rfl ⟨rfl, rfl, rfl, rfl, rfl⟩ rfl rfl rfl rfl rfl (by kernel_rfl) Try.func7 (by kernel_rfl)
    (of_decide_eq_true (by kernel_rfl)) (by unfold Func.isWrapper; first | (rw [if_pos (by decide +kernel)]; kernel_rfl) | (rw [if_neg (by decide +kernel)]; exact ⟨rfl, rfl⟩))
    (fun os started H enc _ => lifted os started H enc)
end r7
end Go.Proofs.Ytcjlkbffmggekaa.E
