/-
  Proved: the law 'IterateApplies' returns true for every input, and each argument reads afterwards as it did. No condition.
-/
import Derived.Test.YtcolebkklojccaaGreatRows
import Derived.Test.YtcolebkklojccaaGreatItY
import Derived.Test.YtcolebkklojccaaGreatItL
set_option linter.unusedVariables false
set_option linter.unusedSimpArgs false
namespace Go.Proofs.YtcolebkklojccaaGreat.E
open Go Go.ChangeShapes Go.WideShapes Go.ChangeAt Go.RowKit
set_option linter.unusedVariables false
set_option linter.unusedSimpArgs false
namespace r3
set_option maxRecDepth 100000 in
theorem lifted (os : Os) (started : os.Started) (H : Type) (enc : TypeId × Value → H) :
    ReturnsInHanded {} Tryz.checked os 3 .any (Go.Proofs.YtcolebkklojccaaGreat.Rows.iterateAppliesSpec.pre6 enc Tryz.prog Tryz.f3 Go.Proofs.YtcolebkklojccaaGreat.Rows.iterateAppliesRow.domain false) (Go.Proofs.YtcolebkklojccaaGreat.Rows.iterateAppliesSpec.post enc Tryz.prog Tryz.f3 false true false false) := by
  refine returnsInHanded_of_change (C := Tryz.checked) own0 started (by kernel_rfl) Tryz.func3
    (ChangeSpec.witness6 (enc := enc) (C := Tryz.checked) false ⟨#[], #[.slice none 0 0, .slice none 0 0, .slice none 0 0], []⟩ 8 (by kernel_rfl) (by kernel_rfl) (by kernel_rfl) (by kernel_rfl)) ?_
  intro W base args ds gs before hval hW _ _
  refine law_contract (n := 8) (ats := [.c (.sl ctEv), .c (.sl ctEnt), .c (.sl [.i .i64])]) (tb := 4) laid0 rfl ?_ rfl Tryz.underlying4 (by kernel_rfl) ?_ W base args ds gs before hval hW
  · intro ds h
    match ds, h with
    | [a, b, c], _ => rfl
  · intro dvs h
    obtain ⟨d0, d1, d2, rfl, h0, h1, h2⟩ := all2_3 h
    obtain ⟨es, rfl⟩ := ty_Evs h0
    obtain ⟨st, rfl⟩ := ty_Ents h1
    obtain ⟨ids, rfl⟩ := ty_Ints h2
    exact spec3 es st ids
theorem proved : Go.Proofs.YtcolebkklojccaaGreat.Rows.IterateAppliesSaid :=
  OpenClaim.holds_of_wide 3 Tryz.f3 rfl rfl rfl rfl rfl rfl rfl ⟨rfl, rfl, rfl, rfl, rfl⟩ rfl rfl rfl rfl rfl (by kernel_rfl) Tryz.func3 (by kernel_rfl)
    (of_decide_eq_true (by kernel_rfl)) (by unfold Func.isWrapper; first | (rw [if_pos (by decide +kernel)]; kernel_rfl) | (rw [if_neg (by decide +kernel)]; exact ⟨rfl, rfl⟩))
    (fun os started H enc _ => lifted os started H enc)
end r3
end Go.Proofs.YtcolebkklojccaaGreat.E
