/-
  Proved: the law 'OnetimeUploads' returns true for every input, and each argument reads afterwards as it did. No condition.
-/
import Derived.Test.YtcjlkbffmggekaaRows
import Derived.Test.YtcjlkbffmggekaaOnY
set_option linter.unusedVariables false
set_option linter.unusedSimpArgs false
namespace Go.Proofs.Ytcjlkbffmggekaa.E
open Go Go.ChangeShapes Go.WideShapes Go.ChangeAt Go.RowKit
set_option linter.unusedVariables false
set_option linter.unusedSimpArgs false
namespace r4
set_option maxRecDepth 100000 in
theorem lifted (os : Os) (started : os.Started) (H : Type) (enc : TypeId × Value → H) :
    ReturnsInHanded {} Try.checked os 4 .any (Go.Proofs.Ytcjlkbffmggekaa.Rows.onetimeUploadsSpec.pre6 enc Try.prog Try.f4 Go.Proofs.Ytcjlkbffmggekaa.Rows.onetimeUploadsRow.domain false) (Go.Proofs.Ytcjlkbffmggekaa.Rows.onetimeUploadsSpec.post enc Try.prog Try.f4 false true false false) := by
  refine returnsInHanded_of_change (C := Try.checked) own0 started (by kernel_rfl) Try.func4
    (ChangeSpec.witness6 (enc := enc) (C := Try.checked) false ⟨#[], #[.slice none 0 0, .agg #[.string ⟨#[]⟩, .string ⟨#[]⟩], .int .i64 0], []⟩ 8 (by kernel_rfl) (by kernel_rfl) (by kernel_rfl) (by kernel_rfl)) ?_
  intro W base args ds gs before hval hW _ _
  refine law_contract (n := 8) (ats := [.c (.sl ctOT), .ag [.s, .s], .c (.i .i64)]) (tb := 4) laid0 rfl ?_ rfl Try.underlying4 (by kernel_rfl) ?_ W base args ds gs before hval hW
  · intro ds h
    match ds, h with
    | [a, b, c], _ => rfl
  · intro dvs h
    obtain ⟨d0, d1, d2, rfl, h0, h1, h2⟩ := all2_3 h
    obtain ⟨l, rfl⟩ := ty_OTs h0
    obtain ⟨u, v, rfl⟩ := tyTwo h1
    obtain ⟨q, rfl⟩ := ty_int h2
    exact spec4 l u v q

theorem proved : Go.Proofs.Ytcjlkbffmggekaa.Rows.OnetimeUploadsSaid :=
  OpenClaim.holds_of_wide 4 Try.f4 rfl rfl rfl rfl rfl rfl rfl ⟨rfl, rfl, rfl, rfl, rfl⟩ rfl rfl rfl rfl rfl (by kernel_rfl) Try.func4 (by kernel_rfl)
    (of_decide_eq_true (by kernel_rfl)) (by unfold Func.isWrapper; first | (rw [if_pos (by decide +kernel)]; kernel_rfl) | (rw [if_neg (by decide +kernel)]; exact ⟨rfl, rfl⟩))
    (fun os started H enc _ => lifted os started H enc)
end r4
end Go.Proofs.Ytcjlkbffmggekaa.E
