/-
  No cell of these rows narrows 'for every input' (looked for: loops, veiled, ifaces, maps, wideKeys, modest, calm, conditions, laid).
  DERIVED. THE GIVEN ROWS OF THIS SEAT. 6 by the template 'for every input the law returns true; each argument reads behind the call as it read before'; 0 by the template 'total and deterministic' (their statements: YtklbfafdioeehaaTotals.lean).
  GIVEN WITH THE SEED: the statements are not yours to turn. If you find one false, say at which input.
  Laid BY PROGRAM, IN A SANDBOX (cutbox-rows.mjs): the forced cells as the released guide's own fill.sh prints them over the translation 8e8c75867fc9cf6e… (all of the seat's roots in one cut). By AI agents, Wed Nov 11 2026. No macro, syntax, notation, axiom, sorry.
-/
import Derived.Test.YtklbfafdioeehaaChecked
import GoSem.Claim
import GoSem.ClaimJoined
import GoSem.ClaimMapViews
import Derived.JoinedTies
import Derived.KernelRfl
namespace Go.Proofs.Ytklbfafdioeehaa
/- THE CELL 'sum', in the pinned program and in every row, IS THE sha256 OF THE DUMP (.gsa) THAT YtklbfafdioeehaaProg.lean LOADS. Nothing in Lean hashes anything: it is a label: what it is worth is what the hold of that sum in a sandbox is worth. -/
noncomputable def Try.pinned : Pinned := { name := "ytklbfafdioeehaa", sum := "8e8c75867fc9cf6e2337b16af8bf0841f3b0bf0744cd4faa30840e0b191831db", checked := Try.checked }
namespace Rows
def none {H : Type} : Left H := { results := [], args := [] }

/-- 'fedchatlaw32.NetSends': WHATEVER THE INPUT: true; the input reads as it did. -/
def netSendsSpec : ChangeSpec := { name := "netSends", fn := fun _ => fun
  | [d1, d2] => { results := [.lit (.bool true)], args := [d1, d2] }
  | _ => none }
def netSendsRow : OpenClaim := { program := "ytklbfafdioeehaa", sum := "8e8c75867fc9cf6e2337b16af8bf0841f3b0bf0744cd4faa30840e0b191831db", func := "fedchat/fedchatlaw32.NetSends", spec := "netSends", inPlace := ["slices.overlaps[[2]string]"], plainKeys := false, apart := false }
def NetSendsSaid : Prop := netSendsRow.holds Try.pinned (OpenSpec.ofChange netSendsSpec)

/-- ITS FALSE NEIGHBOUR: 'it returns false'. Refute it at one input. -/
def netSendsWrong : ChangeSpec := { name := "netSends", fn := fun _ => fun
  | [d1, d2] => { results := [.lit (.bool false)], args := [d1, d2] }
  | _ => none }
def NetSendsWrongFalsely : Prop := netSendsRow.holds Try.pinned (OpenSpec.ofChange netSendsWrong)

/-- 'fedchatlaw32.NetCuts': WHATEVER THE INPUT: true; the input reads as it did. -/
def netCutsSpec : ChangeSpec := { name := "netCuts", fn := fun _ => fun
  | [d1, d2, d3] => { results := [.lit (.bool true)], args := [d1, d2, d3] }
  | _ => none }
def netCutsRow : OpenClaim := { program := "ytklbfafdioeehaa", sum := "8e8c75867fc9cf6e2337b16af8bf0841f3b0bf0744cd4faa30840e0b191831db", func := "fedchat/fedchatlaw32.NetCuts", spec := "netCuts", inPlace := ["slices.overlaps[[2]string]"], plainKeys := false, apart := false }
def NetCutsSaid : Prop := netCutsRow.holds Try.pinned (OpenSpec.ofChange netCutsSpec)

/-- ITS FALSE NEIGHBOUR: 'it returns false'. Refute it at one input. -/
def netCutsWrong : ChangeSpec := { name := "netCuts", fn := fun _ => fun
  | [d1, d2, d3] => { results := [.lit (.bool false)], args := [d1, d2, d3] }
  | _ => none }
def NetCutsWrongFalsely : Prop := netCutsRow.holds Try.pinned (OpenSpec.ofChange netCutsWrong)

/-- 'fedchatlaw32.NetTakes': WHATEVER THE INPUT: true; the input reads as it did. -/
def netTakesSpec : ChangeSpec := { name := "netTakes", fn := fun _ => fun
  | [d1, d2] => { results := [.lit (.bool true)], args := [d1, d2] }
  | _ => none }
def netTakesRow : OpenClaim := { program := "ytklbfafdioeehaa", sum := "8e8c75867fc9cf6e2337b16af8bf0841f3b0bf0744cd4faa30840e0b191831db", func := "fedchat/fedchatlaw32.NetTakes", spec := "netTakes", inPlace := ["slices.overlaps[[2]string]"], plainKeys := false, apart := false }
def NetTakesSaid : Prop := netTakesRow.holds Try.pinned (OpenSpec.ofChange netTakesSpec)

/-- ITS FALSE NEIGHBOUR: 'it returns false'. Refute it at one input. -/
def netTakesWrong : ChangeSpec := { name := "netTakes", fn := fun _ => fun
  | [d1, d2] => { results := [.lit (.bool false)], args := [d1, d2] }
  | _ => none }
def NetTakesWrongFalsely : Prop := netTakesRow.holds Try.pinned (OpenSpec.ofChange netTakesWrong)

/-- 'fedchatlaw32.NetFaults': WHATEVER THE INPUT: true; the input reads as it did. -/
def netFaultsSpec : ChangeSpec := { name := "netFaults", fn := fun _ => fun
  | [d1, d2] => { results := [.lit (.bool true)], args := [d1, d2] }
  | _ => none }
def netFaultsRow : OpenClaim := { program := "ytklbfafdioeehaa", sum := "8e8c75867fc9cf6e2337b16af8bf0841f3b0bf0744cd4faa30840e0b191831db", func := "fedchat/fedchatlaw32.NetFaults", spec := "netFaults", inPlace := ["slices.overlaps[[2]string]"], plainKeys := false, apart := false }
def NetFaultsSaid : Prop := netFaultsRow.holds Try.pinned (OpenSpec.ofChange netFaultsSpec)

/-- ITS FALSE NEIGHBOUR: 'it returns false'. Refute it at one input. -/
def netFaultsWrong : ChangeSpec := { name := "netFaults", fn := fun _ => fun
  | [d1, d2] => { results := [.lit (.bool false)], args := [d1, d2] }
  | _ => none }
def NetFaultsWrongFalsely : Prop := netFaultsRow.holds Try.pinned (OpenSpec.ofChange netFaultsWrong)

/-- 'fedchatlaw32.NetLinks': WHATEVER THE INPUT: true; the input reads as it did. -/
def netLinksSpec : ChangeSpec := { name := "netLinks", fn := fun _ => fun
  | [d1, d2, d3] => { results := [.lit (.bool true)], args := [d1, d2, d3] }
  | _ => none }
def netLinksRow : OpenClaim := { program := "ytklbfafdioeehaa", sum := "8e8c75867fc9cf6e2337b16af8bf0841f3b0bf0744cd4faa30840e0b191831db", func := "fedchat/fedchatlaw32.NetLinks", spec := "netLinks", inPlace := ["slices.overlaps[[2]string]"], plainKeys := false, apart := false }
def NetLinksSaid : Prop := netLinksRow.holds Try.pinned (OpenSpec.ofChange netLinksSpec)

/-- ITS FALSE NEIGHBOUR: 'it returns false'. Refute it at one input. -/
def netLinksWrong : ChangeSpec := { name := "netLinks", fn := fun _ => fun
  | [d1, d2, d3] => { results := [.lit (.bool false)], args := [d1, d2, d3] }
  | _ => none }
def NetLinksWrongFalsely : Prop := netLinksRow.holds Try.pinned (OpenSpec.ofChange netLinksWrong)

/-- 'fedchatlaw32.NetBack': WHATEVER THE INPUT: true; the input reads as it did. -/
def netBackSpec : ChangeSpec := { name := "netBack", fn := fun _ => fun
  | [d1, d2, d3] => { results := [.lit (.bool true)], args := [d1, d2, d3] }
  | _ => none }
def netBackRow : OpenClaim := { program := "ytklbfafdioeehaa", sum := "8e8c75867fc9cf6e2337b16af8bf0841f3b0bf0744cd4faa30840e0b191831db", func := "fedchat/fedchatlaw32.NetBack", spec := "netBack", inPlace := ["slices.overlaps[[2]string]"], plainKeys := false, apart := false }
def NetBackSaid : Prop := netBackRow.holds Try.pinned (OpenSpec.ofChange netBackSpec)

/-- ITS FALSE NEIGHBOUR: 'it returns false'. Refute it at one input. -/
def netBackWrong : ChangeSpec := { name := "netBack", fn := fun _ => fun
  | [d1, d2, d3] => { results := [.lit (.bool false)], args := [d1, d2, d3] }
  | _ => none }
def NetBackWrongFalsely : Prop := netBackRow.holds Try.pinned (OpenSpec.ofChange netBackWrong)

/- THE SECOND FORM. 'bulk': how many values and letters a reading holds, each counted each time it is reached (what is shared counts as often as it is met; a slice's spare places count too). A statement '..UptoSaid' is the law's where the arguments, and the package variables that the reading takes, are together of bulk at most 1048576: NARROWER than '..Said'. Prove '..Said' where nothing that the law and all that it calls make is longer than what came in: it says more and counts as full. Else prove '..UptoSaid'. A law counts once. -/
mutual
def uptoBulk {H : Type} : DataW H → Nat
  | .lit (.string bytes) => bytes.length + 1
  | .lit _ => 1
  | .nil => 1
  | .ptr d => uptoBulk d + 1
  | .slice elems spare => uptoBulkAll elems + uptoBulkAll spare + 1
  | .agg parts => uptoBulkAll parts + 1
  | .iface _ d => uptoBulk d + 1
  | .map entries => uptoBulkEntries entries + 1
  | .held _ => 1
def uptoBulkAll {H : Type} : List (DataW H) → Nat
  | [] => 0
  | d :: r => uptoBulk d + uptoBulkAll r
def uptoBulkEntries {H : Type} : List (Lit × DataW H) → Nat
  | [] => 0
  | x :: r => uptoBulkEntry x + uptoBulkEntries r
def uptoBulkEntry {H : Type} : Lit × DataW H → Nat
  | (.string bytes, d) => bytes.length + uptoBulk d + 1
  | (_, d) => uptoBulk d + 1
 end
def uptoSmall : (H : Type) → List (DataW H) → Bool := fun _ ds => decide (uptoBulkAll ds ≤ 1048576)
def OpenSpec.upto (s : _root_.Go.ChangeSpec) : _root_.Go.OpenSpec := { _root_.Go.OpenSpec.ofChange s with cond := some uptoSmall }

/-- 'fedchatlaw32.NetSends', WHERE WHAT IT READS IS OF BULK AT MOST 1048576: true; the input reads as it did. -/
def netSendsUptoRow : OpenClaim := { program := "ytklbfafdioeehaa", sum := "8e8c75867fc9cf6e2337b16af8bf0841f3b0bf0744cd4faa30840e0b191831db", func := "fedchat/fedchatlaw32.NetSends", spec := "netSends", inPlace := ["slices.overlaps[[2]string]"], plainKeys := false, apart := false, narrowed := true }
def NetSendsUptoSaid : Prop := netSendsUptoRow.holds Try.pinned (OpenSpec.upto netSendsSpec)

/-- 'fedchatlaw32.NetCuts', WHERE WHAT IT READS IS OF BULK AT MOST 1048576: true; the input reads as it did. -/
def netCutsUptoRow : OpenClaim := { program := "ytklbfafdioeehaa", sum := "8e8c75867fc9cf6e2337b16af8bf0841f3b0bf0744cd4faa30840e0b191831db", func := "fedchat/fedchatlaw32.NetCuts", spec := "netCuts", inPlace := ["slices.overlaps[[2]string]"], plainKeys := false, apart := false, narrowed := true }
def NetCutsUptoSaid : Prop := netCutsUptoRow.holds Try.pinned (OpenSpec.upto netCutsSpec)

/-- 'fedchatlaw32.NetTakes', WHERE WHAT IT READS IS OF BULK AT MOST 1048576: true; the input reads as it did. -/
def netTakesUptoRow : OpenClaim := { program := "ytklbfafdioeehaa", sum := "8e8c75867fc9cf6e2337b16af8bf0841f3b0bf0744cd4faa30840e0b191831db", func := "fedchat/fedchatlaw32.NetTakes", spec := "netTakes", inPlace := ["slices.overlaps[[2]string]"], plainKeys := false, apart := false, narrowed := true }
def NetTakesUptoSaid : Prop := netTakesUptoRow.holds Try.pinned (OpenSpec.upto netTakesSpec)

/-- 'fedchatlaw32.NetFaults', WHERE WHAT IT READS IS OF BULK AT MOST 1048576: true; the input reads as it did. -/
def netFaultsUptoRow : OpenClaim := { program := "ytklbfafdioeehaa", sum := "8e8c75867fc9cf6e2337b16af8bf0841f3b0bf0744cd4faa30840e0b191831db", func := "fedchat/fedchatlaw32.NetFaults", spec := "netFaults", inPlace := ["slices.overlaps[[2]string]"], plainKeys := false, apart := false, narrowed := true }
def NetFaultsUptoSaid : Prop := netFaultsUptoRow.holds Try.pinned (OpenSpec.upto netFaultsSpec)

/-- 'fedchatlaw32.NetLinks', WHERE WHAT IT READS IS OF BULK AT MOST 1048576: true; the input reads as it did. -/
def netLinksUptoRow : OpenClaim := { program := "ytklbfafdioeehaa", sum := "8e8c75867fc9cf6e2337b16af8bf0841f3b0bf0744cd4faa30840e0b191831db", func := "fedchat/fedchatlaw32.NetLinks", spec := "netLinks", inPlace := ["slices.overlaps[[2]string]"], plainKeys := false, apart := false, narrowed := true }
def NetLinksUptoSaid : Prop := netLinksUptoRow.holds Try.pinned (OpenSpec.upto netLinksSpec)

/-- 'fedchatlaw32.NetBack', WHERE WHAT IT READS IS OF BULK AT MOST 1048576: true; the input reads as it did. -/
def netBackUptoRow : OpenClaim := { program := "ytklbfafdioeehaa", sum := "8e8c75867fc9cf6e2337b16af8bf0841f3b0bf0744cd4faa30840e0b191831db", func := "fedchat/fedchatlaw32.NetBack", spec := "netBack", inPlace := ["slices.overlaps[[2]string]"], plainKeys := false, apart := false, narrowed := true }
def NetBackUptoSaid : Prop := netBackUptoRow.holds Try.pinned (OpenSpec.upto netBackSpec)

end Rows
end Go.Proofs.Ytklbfafdioeehaa
