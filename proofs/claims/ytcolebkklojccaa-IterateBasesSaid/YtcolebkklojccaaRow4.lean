/-
  Proved: the law 'IterateBases' returns true for every input, and each argument reads afterwards as it did. No condition.
-/
import Derived.Test.YtcolebkklojccaaRows
import Derived.Test.YtcolebkklojccaaItY
import Derived.Test.YtcolebkklojccaaItK
set_option linter.unusedVariables false
set_option linter.unusedSimpArgs false
namespace Go.Proofs.Ytcolebkklojccaa.E
open Go Go.ChangeShapes Go.WideShapes Go.ChangeAt Go.RowKit
set_option linter.unusedVariables false
set_option linter.unusedSimpArgs false
namespace r4
set_option maxRecDepth 100000 in
theorem lifted (os : Os) (started : os.Started) (H : Type) (enc : TypeId × Value → H) :
    ReturnsInHanded {} Try.checked os 4 .any (Go.Proofs.Ytcolebkklojccaa.Rows.iterateBasesSpec.pre6 enc Try.prog Try.f4 Go.Proofs.Ytcolebkklojccaa.Rows.iterateBasesRow.domain false) (Go.Proofs.Ytcolebkklojccaa.Rows.iterateBasesSpec.post enc Try.prog Try.f4 false true false false) := by
  refine returnsInHanded_of_change (C := Try.checked) own0 started (by kernel_rfl) Try.func4
    (ChangeSpec.witness6 (enc := enc) (C := Try.checked) false ⟨#[], #[.slice none 0 0, .slice none 0 0, .agg #[.int .i64 0, .string ⟨#[]⟩, .string ⟨#[]⟩, .int .i64 0, .bool false, .string ⟨#[]⟩, .int .i64 0, .int .i64 0, .slice none 0 0, .slice none 0 0, .string ⟨#[]⟩, .int .i64 0, .int .i64 0, .bool false, .string ⟨#[]⟩, .slice none 0 0, .slice none 0 0, .slice none 0 0, .slice none 0 0, .int .i64 0, .int .i64 0, .int .i64 0, .int .i64 0, .int .i64 0, .int .i64 0, .int .i64 0, .int .i64 0, .string ⟨#[]⟩, .int .i64 0]], []⟩ 8 (by kernel_rfl) (by kernel_rfl) (by kernel_rfl) (by kernel_rfl)) ?_
  intro W base args ds gs before hval hW _ _
  refine law_contract (n := 8) (ats := [.c (.sl ctEv), .c (.sl ctEnt), .ag ctEv]) (tb := 4) laid0 rfl ?_ rfl Try.underlying4 (by kernel_rfl) ?_ W base args ds gs before hval hW
  · intro ds h
    match ds, h with
    | [a, b, c], _ => rfl
  · intro dvs h
    obtain ⟨d0, d1, d2, rfl, h0, h1, h2⟩ := all2_3 h
    obtain ⟨es, rfl⟩ := ty_Evs h0
    obtain ⟨st, rfl⟩ := ty_Ents h1
    obtain ⟨e, rfl⟩ := ty_Ev h2
    exact spec4 es st e
theorem proved : Go.Proofs.Ytcolebkklojccaa.Rows.IterateBasesSaid :=
  OpenClaim.holds_of_wide 4 Try.f4 rfl rfl rfl rfl rfl rfl rfl ⟨rfl, rfl, rfl, rfl, rfl⟩ rfl rfl rfl rfl rfl (by kernel_rfl) Try.func4 (by kernel_rfl)
    (of_decide_eq_true (by kernel_rfl)) (by unfold Func.isWrapper; first | (rw [if_pos (by decide +kernel)]; kernel_rfl) | (rw [if_neg (by decide +kernel)]; exact ⟨rfl, rfl⟩))
    (fun os started H enc _ => lifted os started H enc)
end r4
end Go.Proofs.Ytcolebkklojccaa.E
