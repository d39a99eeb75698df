/-
  No cell of these rows narrows 'for every input' (looked for: loops, veiled, ifaces, maps, wideKeys, modest, calm, conditions, laid).
  DERIVED. THE GIVEN ROWS OF THIS SEAT. 7 by the template 'for every input the law returns true; each argument reads behind the call as it read before'; 0 by the template 'total and deterministic' (their statements: YtcpiaamaddfbcaaTotals.lean).
  GIVEN WITH THE SEED: the statements are not yours to turn. If you find one false, say at which input.
  Laid BY PROGRAM, IN A SANDBOX (cutbox-rows.mjs): the forced cells as the released guide's own fill.sh prints them over the translation af3896d1331c3aba… (all of the seat's roots in one cut). By AI agents, Wed Nov 11 2026. No macro, syntax, notation, axiom, sorry.
-/
import Derived.Test.YtcpiaamaddfbcaaChecked
import GoSem.Claim
import GoSem.ClaimJoined
import GoSem.ClaimMapViews
import Derived.JoinedTies
import Derived.KernelRfl
namespace Go.Proofs.Ytcpiaamaddfbcaa
/- THE CELL 'sum', in the pinned program and in every row, IS THE sha256 OF THE DUMP (.gsa) THAT YtcpiaamaddfbcaaProg.lean LOADS. Nothing in Lean hashes anything: it is a label: what it is worth is what the hold of that sum in a sandbox is worth. -/
noncomputable def Try.pinned : Pinned := { name := "ytcpiaamaddfbcaa", sum := "af3896d1331c3aba9e91e0c6d5a163b58eb8f1a4e6dad20abd06524e34b27b92", checked := Try.checked }
namespace Rows
def none {H : Type} : Left H := { results := [], args := [] }

/-- 'fedchatlaw16.AuthAllows': WHATEVER THE INPUT: true; the input reads as it did. -/
def authAllowsSpec : ChangeSpec := { name := "authAllows", fn := fun _ => fun
  | [d1, d2] => { results := [.lit (.bool true)], args := [d1, d2] }
  | _ => none }
def authAllowsRow : OpenClaim := { program := "ytcpiaamaddfbcaa", sum := "af3896d1331c3aba9e91e0c6d5a163b58eb8f1a4e6dad20abd06524e34b27b92", func := "fedchat/fedchatlaw16.AuthAllows", spec := "authAllows", inPlace := ["internal/bytealg.IndexByteString", "internal/bytealg.IndexString"], unfollowed := true, recurses := true, named := ["internal/bytealg.MaxLen"], apart := false }
def AuthAllowsSaid : Prop := authAllowsRow.holds Try.pinned (OpenSpec.ofChange authAllowsSpec)

/-- ITS FALSE NEIGHBOUR: 'it returns false'. Refute it at one input. -/
def authAllowsWrong : ChangeSpec := { name := "authAllows", fn := fun _ => fun
  | [d1, d2] => { results := [.lit (.bool false)], args := [d1, d2] }
  | _ => none }
def AuthAllowsWrongFalsely : Prop := authAllowsRow.holds Try.pinned (OpenSpec.ofChange authAllowsWrong)

/-- 'fedchatlaw16.AuthMembers': WHATEVER THE INPUT: true; the input reads as it did. -/
def authMembersSpec : ChangeSpec := { name := "authMembers", fn := fun _ => fun
  | [d1, d2] => { results := [.lit (.bool true)], args := [d1, d2] }
  | _ => none }
def authMembersRow : OpenClaim := { program := "ytcpiaamaddfbcaa", sum := "af3896d1331c3aba9e91e0c6d5a163b58eb8f1a4e6dad20abd06524e34b27b92", func := "fedchat/fedchatlaw16.AuthMembers", spec := "authMembers", inPlace := ["internal/bytealg.IndexByteString", "internal/bytealg.IndexString"], unfollowed := true, recurses := true, named := ["internal/bytealg.MaxLen"], apart := false }
def AuthMembersSaid : Prop := authMembersRow.holds Try.pinned (OpenSpec.ofChange authMembersSpec)

/-- ITS FALSE NEIGHBOUR: 'it returns false'. Refute it at one input. -/
def authMembersWrong : ChangeSpec := { name := "authMembers", fn := fun _ => fun
  | [d1, d2] => { results := [.lit (.bool false)], args := [d1, d2] }
  | _ => none }
def AuthMembersWrongFalsely : Prop := authMembersRow.holds Try.pinned (OpenSpec.ofChange authMembersWrong)

/-- 'fedchatlaw16.AuthLevels': WHATEVER THE INPUT: true; the input reads as it did. -/
def authLevelsSpec : ChangeSpec := { name := "authLevels", fn := fun _ => fun
  | [d1, d2] => { results := [.lit (.bool true)], args := [d1, d2] }
  | _ => none }
def authLevelsRow : OpenClaim := { program := "ytcpiaamaddfbcaa", sum := "af3896d1331c3aba9e91e0c6d5a163b58eb8f1a4e6dad20abd06524e34b27b92", func := "fedchat/fedchatlaw16.AuthLevels", spec := "authLevels", inPlace := ["internal/bytealg.IndexByteString", "internal/bytealg.IndexString"], unfollowed := true, recurses := true, named := ["internal/bytealg.MaxLen"], apart := false }
def AuthLevelsSaid : Prop := authLevelsRow.holds Try.pinned (OpenSpec.ofChange authLevelsSpec)

/-- ITS FALSE NEIGHBOUR: 'it returns false'. Refute it at one input. -/
def authLevelsWrong : ChangeSpec := { name := "authLevels", fn := fun _ => fun
  | [d1, d2] => { results := [.lit (.bool false)], args := [d1, d2] }
  | _ => none }
def AuthLevelsWrongFalsely : Prop := authLevelsRow.holds Try.pinned (OpenSpec.ofChange authLevelsWrong)

/-- 'fedchatlaw16.AuthBans': WHATEVER THE INPUT: true; the input reads as it did. -/
def authBansSpec : ChangeSpec := { name := "authBans", fn := fun _ => fun
  | [d1, d2] => { results := [.lit (.bool true)], args := [d1, d2] }
  | _ => none }
def authBansRow : OpenClaim := { program := "ytcpiaamaddfbcaa", sum := "af3896d1331c3aba9e91e0c6d5a163b58eb8f1a4e6dad20abd06524e34b27b92", func := "fedchat/fedchatlaw16.AuthBans", spec := "authBans", inPlace := ["internal/bytealg.IndexByteString", "internal/bytealg.IndexString"], unfollowed := true, recurses := true, named := ["internal/bytealg.MaxLen"], apart := false }
def AuthBansSaid : Prop := authBansRow.holds Try.pinned (OpenSpec.ofChange authBansSpec)

/-- ITS FALSE NEIGHBOUR: 'it returns false'. Refute it at one input. -/
def authBansWrong : ChangeSpec := { name := "authBans", fn := fun _ => fun
  | [d1, d2] => { results := [.lit (.bool false)], args := [d1, d2] }
  | _ => none }
def AuthBansWrongFalsely : Prop := authBansRow.holds Try.pinned (OpenSpec.ofChange authBansWrong)

/-- 'fedchatlaw16.AuthRemoves': WHATEVER THE INPUT: true; the input reads as it did. -/
def authRemovesSpec : ChangeSpec := { name := "authRemoves", fn := fun _ => fun
  | [d1, d2] => { results := [.lit (.bool true)], args := [d1, d2] }
  | _ => none }
def authRemovesRow : OpenClaim := { program := "ytcpiaamaddfbcaa", sum := "af3896d1331c3aba9e91e0c6d5a163b58eb8f1a4e6dad20abd06524e34b27b92", func := "fedchat/fedchatlaw16.AuthRemoves", spec := "authRemoves", inPlace := ["internal/bytealg.IndexByteString", "internal/bytealg.IndexString"], unfollowed := true, recurses := true, named := ["internal/bytealg.MaxLen"], apart := false }
def AuthRemovesSaid : Prop := authRemovesRow.holds Try.pinned (OpenSpec.ofChange authRemovesSpec)

/-- ITS FALSE NEIGHBOUR: 'it returns false'. Refute it at one input. -/
def authRemovesWrong : ChangeSpec := { name := "authRemoves", fn := fun _ => fun
  | [d1, d2] => { results := [.lit (.bool false)], args := [d1, d2] }
  | _ => none }
def AuthRemovesWrongFalsely : Prop := authRemovesRow.holds Try.pinned (OpenSpec.ofChange authRemovesWrong)

/-- 'fedchatlaw16.AuthEntries': WHATEVER THE INPUT: true; the input reads as it did. -/
def authEntriesSpec : ChangeSpec := { name := "authEntries", fn := fun _ => fun
  | [d1, d2] => { results := [.lit (.bool true)], args := [d1, d2] }
  | _ => none }
def authEntriesRow : OpenClaim := { program := "ytcpiaamaddfbcaa", sum := "af3896d1331c3aba9e91e0c6d5a163b58eb8f1a4e6dad20abd06524e34b27b92", func := "fedchat/fedchatlaw16.AuthEntries", spec := "authEntries", inPlace := ["internal/bytealg.IndexByteString", "internal/bytealg.IndexString"], unfollowed := true, recurses := true, named := ["internal/bytealg.MaxLen"], apart := false }
def AuthEntriesSaid : Prop := authEntriesRow.holds Try.pinned (OpenSpec.ofChange authEntriesSpec)

/-- ITS FALSE NEIGHBOUR: 'it returns false'. Refute it at one input. -/
def authEntriesWrong : ChangeSpec := { name := "authEntries", fn := fun _ => fun
  | [d1, d2] => { results := [.lit (.bool false)], args := [d1, d2] }
  | _ => none }
def AuthEntriesWrongFalsely : Prop := authEntriesRow.holds Try.pinned (OpenSpec.ofChange authEntriesWrong)

/-- 'fedchatlaw16.AuthStripped': WHATEVER THE INPUT: true; the input reads as it did. -/
def authStrippedSpec : ChangeSpec := { name := "authStripped", fn := fun _ => fun
  | [d1, d2] => { results := [.lit (.bool true)], args := [d1, d2] }
  | _ => none }
def authStrippedRow : OpenClaim := { program := "ytcpiaamaddfbcaa", sum := "af3896d1331c3aba9e91e0c6d5a163b58eb8f1a4e6dad20abd06524e34b27b92", func := "fedchat/fedchatlaw16.AuthStripped", spec := "authStripped", inPlace := ["internal/bytealg.IndexByteString", "internal/bytealg.IndexString"], unfollowed := true, recurses := true, named := ["internal/bytealg.MaxLen"], apart := false }
def AuthStrippedSaid : Prop := authStrippedRow.holds Try.pinned (OpenSpec.ofChange authStrippedSpec)

/-- ITS FALSE NEIGHBOUR: 'it returns false'. Refute it at one input. -/
def authStrippedWrong : ChangeSpec := { name := "authStripped", fn := fun _ => fun
  | [d1, d2] => { results := [.lit (.bool false)], args := [d1, d2] }
  | _ => none }
def AuthStrippedWrongFalsely : Prop := authStrippedRow.holds Try.pinned (OpenSpec.ofChange authStrippedWrong)

/- THE SECOND FORM. 'bulk': how many values and letters a reading holds, each counted each time it is reached (what is shared counts as often as it is met; a slice's spare places count too). A statement '..UptoSaid' is the law's where the arguments, and the package variables that the reading takes, are together of bulk at most 1048576: NARROWER than '..Said'. Prove '..Said' where nothing that the law and all that it calls make is longer than what came in: it says more and counts as full. Else prove '..UptoSaid'. A law counts once. -/
mutual
def uptoBulk {H : Type} : DataW H → Nat
  | .lit (.string bytes) => bytes.length + 1
  | .lit _ => 1
  | .nil => 1
  | .ptr d => uptoBulk d + 1
  | .slice elems spare => uptoBulkAll elems + uptoBulkAll spare + 1
  | .agg parts => uptoBulkAll parts + 1
  | .iface _ d => uptoBulk d + 1
  | .map entries => uptoBulkEntries entries + 1
  | .held _ => 1
def uptoBulkAll {H : Type} : List (DataW H) → Nat
  | [] => 0
  | d :: r => uptoBulk d + uptoBulkAll r
def uptoBulkEntries {H : Type} : List (Lit × DataW H) → Nat
  | [] => 0
  | x :: r => uptoBulkEntry x + uptoBulkEntries r
def uptoBulkEntry {H : Type} : Lit × DataW H → Nat
  | (.string bytes, d) => bytes.length + uptoBulk d + 1
  | (_, d) => uptoBulk d + 1
 end
def uptoSmall : (H : Type) → List (DataW H) → Bool := fun _ ds => decide (uptoBulkAll ds ≤ 1048576)
def OpenSpec.upto (s : _root_.Go.ChangeSpec) : _root_.Go.OpenSpec := { _root_.Go.OpenSpec.ofChange s with cond := some uptoSmall }

/-- 'fedchatlaw16.AuthAllows', WHERE WHAT IT READS IS OF BULK AT MOST 1048576: true; the input reads as it did. -/
def authAllowsUptoRow : OpenClaim := { program := "ytcpiaamaddfbcaa", sum := "af3896d1331c3aba9e91e0c6d5a163b58eb8f1a4e6dad20abd06524e34b27b92", func := "fedchat/fedchatlaw16.AuthAllows", spec := "authAllows", inPlace := ["internal/bytealg.IndexByteString", "internal/bytealg.IndexString"], unfollowed := true, recurses := true, named := ["internal/bytealg.MaxLen"], apart := false, narrowed := true }
def AuthAllowsUptoSaid : Prop := authAllowsUptoRow.holds Try.pinned (OpenSpec.upto authAllowsSpec)

/-- 'fedchatlaw16.AuthMembers', WHERE WHAT IT READS IS OF BULK AT MOST 1048576: true; the input reads as it did. -/
def authMembersUptoRow : OpenClaim := { program := "ytcpiaamaddfbcaa", sum := "af3896d1331c3aba9e91e0c6d5a163b58eb8f1a4e6dad20abd06524e34b27b92", func := "fedchat/fedchatlaw16.AuthMembers", spec := "authMembers", inPlace := ["internal/bytealg.IndexByteString", "internal/bytealg.IndexString"], unfollowed := true, recurses := true, named := ["internal/bytealg.MaxLen"], apart := false, narrowed := true }
def AuthMembersUptoSaid : Prop := authMembersUptoRow.holds Try.pinned (OpenSpec.upto authMembersSpec)

/-- 'fedchatlaw16.AuthLevels', WHERE WHAT IT READS IS OF BULK AT MOST 1048576: true; the input reads as it did. -/
def authLevelsUptoRow : OpenClaim := { program := "ytcpiaamaddfbcaa", sum := "af3896d1331c3aba9e91e0c6d5a163b58eb8f1a4e6dad20abd06524e34b27b92", func := "fedchat/fedchatlaw16.AuthLevels", spec := "authLevels", inPlace := ["internal/bytealg.IndexByteString", "internal/bytealg.IndexString"], unfollowed := true, recurses := true, named := ["internal/bytealg.MaxLen"], apart := false, narrowed := true }
def AuthLevelsUptoSaid : Prop := authLevelsUptoRow.holds Try.pinned (OpenSpec.upto authLevelsSpec)

/-- 'fedchatlaw16.AuthBans', WHERE WHAT IT READS IS OF BULK AT MOST 1048576: true; the input reads as it did. -/
def authBansUptoRow : OpenClaim := { program := "ytcpiaamaddfbcaa", sum := "af3896d1331c3aba9e91e0c6d5a163b58eb8f1a4e6dad20abd06524e34b27b92", func := "fedchat/fedchatlaw16.AuthBans", spec := "authBans", inPlace := ["internal/bytealg.IndexByteString", "internal/bytealg.IndexString"], unfollowed := true, recurses := true, named := ["internal/bytealg.MaxLen"], apart := false, narrowed := true }
def AuthBansUptoSaid : Prop := authBansUptoRow.holds Try.pinned (OpenSpec.upto authBansSpec)

/-- 'fedchatlaw16.AuthRemoves', WHERE WHAT IT READS IS OF BULK AT MOST 1048576: true; the input reads as it did. -/
def authRemovesUptoRow : OpenClaim := { program := "ytcpiaamaddfbcaa", sum := "af3896d1331c3aba9e91e0c6d5a163b58eb8f1a4e6dad20abd06524e34b27b92", func := "fedchat/fedchatlaw16.AuthRemoves", spec := "authRemoves", inPlace := ["internal/bytealg.IndexByteString", "internal/bytealg.IndexString"], unfollowed := true, recurses := true, named := ["internal/bytealg.MaxLen"], apart := false, narrowed := true }
def AuthRemovesUptoSaid : Prop := authRemovesUptoRow.holds Try.pinned (OpenSpec.upto authRemovesSpec)

/-- 'fedchatlaw16.AuthEntries', WHERE WHAT IT READS IS OF BULK AT MOST 1048576: true; the input reads as it did. -/
def authEntriesUptoRow : OpenClaim := { program := "ytcpiaamaddfbcaa", sum := "af3896d1331c3aba9e91e0c6d5a163b58eb8f1a4e6dad20abd06524e34b27b92", func := "fedchat/fedchatlaw16.AuthEntries", spec := "authEntries", inPlace := ["internal/bytealg.IndexByteString", "internal/bytealg.IndexString"], unfollowed := true, recurses := true, named := ["internal/bytealg.MaxLen"], apart := false, narrowed := true }
def AuthEntriesUptoSaid : Prop := authEntriesUptoRow.holds Try.pinned (OpenSpec.upto authEntriesSpec)

/-- 'fedchatlaw16.AuthStripped', WHERE WHAT IT READS IS OF BULK AT MOST 1048576: true; the input reads as it did. -/
def authStrippedUptoRow : OpenClaim := { program := "ytcpiaamaddfbcaa", sum := "af3896d1331c3aba9e91e0c6d5a163b58eb8f1a4e6dad20abd06524e34b27b92", func := "fedchat/fedchatlaw16.AuthStripped", spec := "authStripped", inPlace := ["internal/bytealg.IndexByteString", "internal/bytealg.IndexString"], unfollowed := true, recurses := true, named := ["internal/bytealg.MaxLen"], apart := false, narrowed := true }
def AuthStrippedUptoSaid : Prop := authStrippedUptoRow.holds Try.pinned (OpenSpec.upto authStrippedSpec)

end Rows
end Go.Proofs.Ytcpiaamaddfbcaa
