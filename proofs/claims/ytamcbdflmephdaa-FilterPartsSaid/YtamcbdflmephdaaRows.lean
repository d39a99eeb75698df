/-
  No cell of these rows narrows 'for every input' (looked for: loops, veiled, ifaces, maps, wideKeys, modest, calm, conditions, laid).
  DERIVED. THE GIVEN ROWS OF THIS SEAT. 6 by the template 'for every input the law returns true; each argument reads behind the call as it read before'; 0 by the template 'total and deterministic' (their statements: YtamcbdflmephdaaTotals.lean).
  GIVEN WITH THE SEED: the statements are not yours to turn. If you find one false, say at which input.
  Laid BY PROGRAM, IN A SANDBOX (cutbox-rows.mjs): the forced cells as the released guide's own fill.sh prints them over the translation b269b05316d15f3a… (all of the seat's roots in one cut). By AI agents, Wed Nov 11 2026. No macro, syntax, notation, axiom, sorry.
-/
import Derived.Test.YtamcbdflmephdaaChecked
import GoSem.Claim
import GoSem.ClaimJoined
import GoSem.ClaimMapViews
import Derived.JoinedTies
import Derived.KernelRfl
namespace Go.Proofs.Ytamcbdflmephdaa
/- THE CELL 'sum', in the pinned program and in every row, IS THE sha256 OF THE DUMP (.gsa) THAT YtamcbdflmephdaaProg.lean LOADS. Nothing in Lean hashes anything: it is a label: what it is worth is what the hold of that sum in a sandbox is worth. -/
noncomputable def Try.pinned : Pinned := { name := "ytamcbdflmephdaa", sum := "b269b05316d15f3a508edb21340a4ee7fd180d3bcd062a01c00a5b3e446f147f", checked := Try.checked }
namespace Rows
def none {H : Type} : Left H := { results := [], args := [] }

/-- 'fedchatlaw39.FilterChecks': WHATEVER THE INPUT: true; the input reads as it did. -/
def filterChecksSpec : ChangeSpec := { name := "filterChecks", fn := fun _ => fun
  | [d] => { results := [.lit (.bool true)], args := [d] }
  | _ => none }
def filterChecksRow : OpenClaim := { program := "ytamcbdflmephdaa", sum := "b269b05316d15f3a508edb21340a4ee7fd180d3bcd062a01c00a5b3e446f147f", func := "fedchat/fedchatlaw39.FilterChecks", spec := "filterChecks", inPlace := ["internal/bytealg.IndexByteString", "internal/bytealg.IndexString"], unfollowed := true, recurses := true, named := ["internal/bytealg.MaxLen"], apart := false }
def FilterChecksSaid : Prop := filterChecksRow.holds Try.pinned (OpenSpec.ofChange filterChecksSpec)

/-- ITS FALSE NEIGHBOUR: 'it returns false'. Refute it at one input. -/
def filterChecksWrong : ChangeSpec := { name := "filterChecks", fn := fun _ => fun
  | [d] => { results := [.lit (.bool false)], args := [d] }
  | _ => none }
def FilterChecksWrongFalsely : Prop := filterChecksRow.holds Try.pinned (OpenSpec.ofChange filterChecksWrong)

/-- 'fedchatlaw39.FilterWants': WHATEVER THE INPUT: true; the input reads as it did. -/
def filterWantsSpec : ChangeSpec := { name := "filterWants", fn := fun _ => fun
  | [d1, d2] => { results := [.lit (.bool true)], args := [d1, d2] }
  | _ => none }
def filterWantsRow : OpenClaim := { program := "ytamcbdflmephdaa", sum := "b269b05316d15f3a508edb21340a4ee7fd180d3bcd062a01c00a5b3e446f147f", func := "fedchat/fedchatlaw39.FilterWants", spec := "filterWants", inPlace := ["internal/bytealg.IndexByteString", "internal/bytealg.IndexString"], unfollowed := true, recurses := true, named := ["internal/bytealg.MaxLen"], apart := false }
def FilterWantsSaid : Prop := filterWantsRow.holds Try.pinned (OpenSpec.ofChange filterWantsSpec)

/-- ITS FALSE NEIGHBOUR: 'it returns false'. Refute it at one input. -/
def filterWantsWrong : ChangeSpec := { name := "filterWants", fn := fun _ => fun
  | [d1, d2] => { results := [.lit (.bool false)], args := [d1, d2] }
  | _ => none }
def FilterWantsWrongFalsely : Prop := filterWantsRow.holds Try.pinned (OpenSpec.ofChange filterWantsWrong)

/-- 'fedchatlaw39.FilterCuts': WHATEVER THE INPUT: true; the input reads as it did. -/
def filterCutsSpec : ChangeSpec := { name := "filterCuts", fn := fun _ => fun
  | [d1, d2] => { results := [.lit (.bool true)], args := [d1, d2] }
  | _ => none }
def filterCutsRow : OpenClaim := { program := "ytamcbdflmephdaa", sum := "b269b05316d15f3a508edb21340a4ee7fd180d3bcd062a01c00a5b3e446f147f", func := "fedchat/fedchatlaw39.FilterCuts", spec := "filterCuts", inPlace := ["internal/bytealg.IndexByteString", "internal/bytealg.IndexString"], unfollowed := true, recurses := true, named := ["internal/bytealg.MaxLen"], apart := false }
def FilterCutsSaid : Prop := filterCutsRow.holds Try.pinned (OpenSpec.ofChange filterCutsSpec)

/-- ITS FALSE NEIGHBOUR: 'it returns false'. Refute it at one input. -/
def filterCutsWrong : ChangeSpec := { name := "filterCuts", fn := fun _ => fun
  | [d1, d2] => { results := [.lit (.bool false)], args := [d1, d2] }
  | _ => none }
def FilterCutsWrongFalsely : Prop := filterCutsRow.holds Try.pinned (OpenSpec.ofChange filterCutsWrong)

/-- 'fedchatlaw39.FilterLazy': WHATEVER THE INPUT: true; the input reads as it did. -/
def filterLazySpec : ChangeSpec := { name := "filterLazy", fn := fun _ => fun
  | [d1, d2, d3] => { results := [.lit (.bool true)], args := [d1, d2, d3] }
  | _ => none }
def filterLazyRow : OpenClaim := { program := "ytamcbdflmephdaa", sum := "b269b05316d15f3a508edb21340a4ee7fd180d3bcd062a01c00a5b3e446f147f", func := "fedchat/fedchatlaw39.FilterLazy", spec := "filterLazy", inPlace := ["internal/bytealg.IndexByteString", "internal/bytealg.IndexString"], unfollowed := true, recurses := true, named := ["internal/bytealg.MaxLen"], apart := false }
def FilterLazySaid : Prop := filterLazyRow.holds Try.pinned (OpenSpec.ofChange filterLazySpec)

/-- ITS FALSE NEIGHBOUR: 'it returns false'. Refute it at one input. -/
def filterLazyWrong : ChangeSpec := { name := "filterLazy", fn := fun _ => fun
  | [d1, d2, d3] => { results := [.lit (.bool false)], args := [d1, d2, d3] }
  | _ => none }
def FilterLazyWrongFalsely : Prop := filterLazyRow.holds Try.pinned (OpenSpec.ofChange filterLazyWrong)

/-- 'fedchatlaw39.FilterAnds': WHATEVER THE INPUT: true; the input reads as it did. -/
def filterAndsSpec : ChangeSpec := { name := "filterAnds", fn := fun _ => fun
  | [d1, d2, d3] => { results := [.lit (.bool true)], args := [d1, d2, d3] }
  | _ => none }
def filterAndsRow : OpenClaim := { program := "ytamcbdflmephdaa", sum := "b269b05316d15f3a508edb21340a4ee7fd180d3bcd062a01c00a5b3e446f147f", func := "fedchat/fedchatlaw39.FilterAnds", spec := "filterAnds", inPlace := ["internal/bytealg.IndexByteString", "internal/bytealg.IndexString"], unfollowed := true, recurses := true, named := ["internal/bytealg.MaxLen"], apart := false }
def FilterAndsSaid : Prop := filterAndsRow.holds Try.pinned (OpenSpec.ofChange filterAndsSpec)

/-- ITS FALSE NEIGHBOUR: 'it returns false'. Refute it at one input. -/
def filterAndsWrong : ChangeSpec := { name := "filterAnds", fn := fun _ => fun
  | [d1, d2, d3] => { results := [.lit (.bool false)], args := [d1, d2, d3] }
  | _ => none }
def FilterAndsWrongFalsely : Prop := filterAndsRow.holds Try.pinned (OpenSpec.ofChange filterAndsWrong)

/-- 'fedchatlaw39.FilterParts': WHATEVER THE INPUT: true; the input reads as it did. -/
def filterPartsSpec : ChangeSpec := { name := "filterParts", fn := fun _ => fun
  | [d1, d2] => { results := [.lit (.bool true)], args := [d1, d2] }
  | _ => none }
def filterPartsRow : OpenClaim := { program := "ytamcbdflmephdaa", sum := "b269b05316d15f3a508edb21340a4ee7fd180d3bcd062a01c00a5b3e446f147f", func := "fedchat/fedchatlaw39.FilterParts", spec := "filterParts", inPlace := ["internal/bytealg.IndexByteString", "internal/bytealg.IndexString"], unfollowed := true, recurses := true, named := ["internal/bytealg.MaxLen"], apart := false }
def FilterPartsSaid : Prop := filterPartsRow.holds Try.pinned (OpenSpec.ofChange filterPartsSpec)

/-- ITS FALSE NEIGHBOUR: 'it returns false'. Refute it at one input. -/
def filterPartsWrong : ChangeSpec := { name := "filterParts", fn := fun _ => fun
  | [d1, d2] => { results := [.lit (.bool false)], args := [d1, d2] }
  | _ => none }
def FilterPartsWrongFalsely : Prop := filterPartsRow.holds Try.pinned (OpenSpec.ofChange filterPartsWrong)

/- THE SECOND FORM. 'bulk': how many values and letters a reading holds, each counted each time it is reached (what is shared counts as often as it is met; a slice's spare places count too). A statement '..UptoSaid' is the law's where the arguments, and the package variables that the reading takes, are together of bulk at most 1048576: NARROWER than '..Said'. Prove '..Said' where nothing that the law and all that it calls make is longer than what came in: it says more and counts as full. Else prove '..UptoSaid'. A law counts once. -/
mutual
def uptoBulk {H : Type} : DataW H → Nat
  | .lit (.string bytes) => bytes.length + 1
  | .lit _ => 1
  | .nil => 1
  | .ptr d => uptoBulk d + 1
  | .slice elems spare => uptoBulkAll elems + uptoBulkAll spare + 1
  | .agg parts => uptoBulkAll parts + 1
  | .iface _ d => uptoBulk d + 1
  | .map entries => uptoBulkEntries entries + 1
  | .held _ => 1
def uptoBulkAll {H : Type} : List (DataW H) → Nat
  | [] => 0
  | d :: r => uptoBulk d + uptoBulkAll r
def uptoBulkEntries {H : Type} : List (Lit × DataW H) → Nat
  | [] => 0
  | x :: r => uptoBulkEntry x + uptoBulkEntries r
def uptoBulkEntry {H : Type} : Lit × DataW H → Nat
  | (.string bytes, d) => bytes.length + uptoBulk d + 1
  | (_, d) => uptoBulk d + 1
 end
def uptoSmall : (H : Type) → List (DataW H) → Bool := fun _ ds => decide (uptoBulkAll ds ≤ 1048576)
def OpenSpec.upto (s : _root_.Go.ChangeSpec) : _root_.Go.OpenSpec := { _root_.Go.OpenSpec.ofChange s with cond := some uptoSmall }

/-- 'fedchatlaw39.FilterChecks', WHERE WHAT IT READS IS OF BULK AT MOST 1048576: true; the input reads as it did. -/
def filterChecksUptoRow : OpenClaim := { program := "ytamcbdflmephdaa", sum := "b269b05316d15f3a508edb21340a4ee7fd180d3bcd062a01c00a5b3e446f147f", func := "fedchat/fedchatlaw39.FilterChecks", spec := "filterChecks", inPlace := ["internal/bytealg.IndexByteString", "internal/bytealg.IndexString"], unfollowed := true, recurses := true, named := ["internal/bytealg.MaxLen"], apart := false, narrowed := true }
def FilterChecksUptoSaid : Prop := filterChecksUptoRow.holds Try.pinned (OpenSpec.upto filterChecksSpec)

/-- 'fedchatlaw39.FilterWants', WHERE WHAT IT READS IS OF BULK AT MOST 1048576: true; the input reads as it did. -/
def filterWantsUptoRow : OpenClaim := { program := "ytamcbdflmephdaa", sum := "b269b05316d15f3a508edb21340a4ee7fd180d3bcd062a01c00a5b3e446f147f", func := "fedchat/fedchatlaw39.FilterWants", spec := "filterWants", inPlace := ["internal/bytealg.IndexByteString", "internal/bytealg.IndexString"], unfollowed := true, recurses := true, named := ["internal/bytealg.MaxLen"], apart := false, narrowed := true }
def FilterWantsUptoSaid : Prop := filterWantsUptoRow.holds Try.pinned (OpenSpec.upto filterWantsSpec)

/-- 'fedchatlaw39.FilterCuts', WHERE WHAT IT READS IS OF BULK AT MOST 1048576: true; the input reads as it did. -/
def filterCutsUptoRow : OpenClaim := { program := "ytamcbdflmephdaa", sum := "b269b05316d15f3a508edb21340a4ee7fd180d3bcd062a01c00a5b3e446f147f", func := "fedchat/fedchatlaw39.FilterCuts", spec := "filterCuts", inPlace := ["internal/bytealg.IndexByteString", "internal/bytealg.IndexString"], unfollowed := true, recurses := true, named := ["internal/bytealg.MaxLen"], apart := false, narrowed := true }
def FilterCutsUptoSaid : Prop := filterCutsUptoRow.holds Try.pinned (OpenSpec.upto filterCutsSpec)

/-- 'fedchatlaw39.FilterLazy', WHERE WHAT IT READS IS OF BULK AT MOST 1048576: true; the input reads as it did. -/
def filterLazyUptoRow : OpenClaim := { program := "ytamcbdflmephdaa", sum := "b269b05316d15f3a508edb21340a4ee7fd180d3bcd062a01c00a5b3e446f147f", func := "fedchat/fedchatlaw39.FilterLazy", spec := "filterLazy", inPlace := ["internal/bytealg.IndexByteString", "internal/bytealg.IndexString"], unfollowed := true, recurses := true, named := ["internal/bytealg.MaxLen"], apart := false, narrowed := true }
def FilterLazyUptoSaid : Prop := filterLazyUptoRow.holds Try.pinned (OpenSpec.upto filterLazySpec)

/-- 'fedchatlaw39.FilterAnds', WHERE WHAT IT READS IS OF BULK AT MOST 1048576: true; the input reads as it did. -/
def filterAndsUptoRow : OpenClaim := { program := "ytamcbdflmephdaa", sum := "b269b05316d15f3a508edb21340a4ee7fd180d3bcd062a01c00a5b3e446f147f", func := "fedchat/fedchatlaw39.FilterAnds", spec := "filterAnds", inPlace := ["internal/bytealg.IndexByteString", "internal/bytealg.IndexString"], unfollowed := true, recurses := true, named := ["internal/bytealg.MaxLen"], apart := false, narrowed := true }
def FilterAndsUptoSaid : Prop := filterAndsUptoRow.holds Try.pinned (OpenSpec.upto filterAndsSpec)

/-- 'fedchatlaw39.FilterParts', WHERE WHAT IT READS IS OF BULK AT MOST 1048576: true; the input reads as it did. -/
def filterPartsUptoRow : OpenClaim := { program := "ytamcbdflmephdaa", sum := "b269b05316d15f3a508edb21340a4ee7fd180d3bcd062a01c00a5b3e446f147f", func := "fedchat/fedchatlaw39.FilterParts", spec := "filterParts", inPlace := ["internal/bytealg.IndexByteString", "internal/bytealg.IndexString"], unfollowed := true, recurses := true, named := ["internal/bytealg.MaxLen"], apart := false, narrowed := true }
def FilterPartsUptoSaid : Prop := filterPartsUptoRow.holds Try.pinned (OpenSpec.upto filterPartsSpec)

end Rows
end Go.Proofs.Ytamcbdflmephdaa
