/-
  Proved: the law 'NetLinks' returns true for every input, and each argument reads afterwards as it did. No condition.
-/
import Derived.Test.YtklbfafdioeehaaRows
import Derived.Test.YtklbfafdioeehaaNtY
import Derived.Test.YtklbfafdioeehaaNtQ
set_option linter.unusedVariables false
set_option linter.unusedSimpArgs false
namespace Go.Proofs.Ytklbfafdioeehaa.E
open Go Go.ChangeShapes Go.WideShapes Go.ChangeAt Go.RowKit
set_option linter.unusedVariables false
set_option linter.unusedSimpArgs false
namespace r7
set_option maxRecDepth 100000 in
theorem lifted (os : Os) (started : os.Started) (H : Type) (enc : TypeId × Value → H) :
    ReturnsInHanded {} Try.checked os 7 .any (Go.Proofs.Ytklbfafdioeehaa.Rows.netLinksSpec.pre6 enc Try.prog Try.f7 Go.Proofs.Ytklbfafdioeehaa.Rows.netLinksRow.domain false) (Go.Proofs.Ytklbfafdioeehaa.Rows.netLinksSpec.post enc Try.prog Try.f7 false true false false) := by
  refine returnsInHanded_of_change (C := Try.checked) own0 started (by kernel_rfl) Try.func7
    (ChangeSpec.witness6 (enc := enc) (C := Try.checked) false ⟨#[], #[.agg #[.slice none 0 0, .slice none 0 0], .agg #[.string ⟨#[]⟩, .string ⟨#[]⟩, .string ⟨#[]⟩, .string ⟨#[]⟩], .bool false], []⟩ 8 (by kernel_rfl) (by kernel_rfl) (by kernel_rfl) (by kernel_rfl)) ?_
  intro W base args ds gs before hval hW _ _
  refine law_contract (n := 24) (ats := [.ag ctNw, .ag [.s, .s, .s, .s], .c .b]) (tb := 4) laid0 rfl ?_ rfl Try.underlying4 (by kernel_rfl) ?_ W base args ds gs before hval hW
  · intro ds h
    match ds, h with
    | [a, b, c], _ => rfl
  · intro dvs h
    obtain ⟨d0, d1, d2, rfl, h0, h1, h2⟩ := all2_3 h
    obtain ⟨nw, rfl⟩ := ty_Nw h0
    obtain ⟨a, b, c, d, rfl⟩ := tyFour h1
    obtain ⟨iz, rfl⟩ := ty_bool h2
    exact spec7 nw a b c d iz

theorem proved : Go.Proofs.Ytklbfafdioeehaa.Rows.NetLinksSaid :=
  OpenClaim.holds_of_wide 7 Try.f7 rfl rfl rfl rfl rfl rfl rfl ⟨rfl, rfl, rfl, rfl, rfl⟩ rfl rfl rfl rfl rfl (by kernel_rfl) Try.func7 (by kernel_rfl)
    (of_decide_eq_true (by kernel_rfl)) (by unfold Func.isWrapper; first | (rw [if_pos (by decide +kernel)]; kernel_rfl) | (rw [if_neg (by decide +kernel)]; exact ⟨rfl, rfl⟩))
    (fun os started H enc _ => lifted os started H enc)
end r7
end Go.Proofs.Ytklbfafdioeehaa.E
