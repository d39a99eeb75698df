/-
  No cell of these rows narrows 'for every input' (looked for: loops, veiled, ifaces, maps, wideKeys, modest, calm, conditions, laid).
  DERIVED. THE GIVEN ROWS OF THIS SEAT. 5 by the template 'for every input the law returns true; each argument reads behind the call as it read before'; 0 by the template 'total and deterministic' (their statements: YtcjlkbffmggekaaTotals.lean).
  GIVEN WITH THE SEED: the statements are not yours to turn. If you find one false, say at which input.
  Laid BY PROGRAM, IN A SANDBOX (cutbox-rows.mjs): the forced cells as the released guide's own fill.sh prints them over the translation 1266574f331996cd… (all of the seat's roots in one cut). By AI agents, Wed Nov 11 2026. No macro, syntax, notation, axiom, sorry.
-/
import Derived.Test.YtcjlkbffmggekaaChecked
import GoSem.Claim
import GoSem.ClaimJoined
import GoSem.ClaimMapViews
import Derived.JoinedTies
import Derived.KernelRfl
namespace Go.Proofs.Ytcjlkbffmggekaa
/- THE CELL 'sum', in the pinned program and in every row, IS THE sha256 OF THE DUMP (.gsa) THAT YtcjlkbffmggekaaProg.lean LOADS. Nothing in Lean hashes anything: it is a label: what it is worth is what the hold of that sum in a sandbox is worth. -/
noncomputable def Try.pinned : Pinned := { name := "ytcjlkbffmggekaa", sum := "1266574f331996cd369270fe7402641733754de0210129103c74632466802823", checked := Try.checked }
namespace Rows
def none {H : Type} : Left H := { results := [], args := [] }

/-- 'fedchatlaw44.OnetimeChecks': WHATEVER THE INPUT: true; the input reads as it did. -/
def onetimeChecksSpec : ChangeSpec := { name := "onetimeChecks", fn := fun _ => fun
  | [d] => { results := [.lit (.bool true)], args := [d] }
  | _ => none }
def onetimeChecksRow : OpenClaim := { program := "ytcjlkbffmggekaa", sum := "1266574f331996cd369270fe7402641733754de0210129103c74632466802823", func := "fedchat/fedchatlaw44.OnetimeChecks", spec := "onetimeChecks", inPlace := ["internal/bytealg.IndexByteString", "internal/bytealg.IndexString", "slices.overlaps[fedchat/api.OneTime]"], unfollowed := true, recurses := true, named := ["internal/bytealg.MaxLen"], plainKeys := false, apart := false }
def OnetimeChecksSaid : Prop := onetimeChecksRow.holds Try.pinned (OpenSpec.ofChange onetimeChecksSpec)

/-- ITS FALSE NEIGHBOUR: 'it returns false'. Refute it at one input. -/
def onetimeChecksWrong : ChangeSpec := { name := "onetimeChecks", fn := fun _ => fun
  | [d] => { results := [.lit (.bool false)], args := [d] }
  | _ => none }
def OnetimeChecksWrongFalsely : Prop := onetimeChecksRow.holds Try.pinned (OpenSpec.ofChange onetimeChecksWrong)

/-- 'fedchatlaw44.OnetimeUploads': WHATEVER THE INPUT: true; the input reads as it did. -/
def onetimeUploadsSpec : ChangeSpec := { name := "onetimeUploads", fn := fun _ => fun
  | [d1, d2, d3] => { results := [.lit (.bool true)], args := [d1, d2, d3] }
  | _ => none }
def onetimeUploadsRow : OpenClaim := { program := "ytcjlkbffmggekaa", sum := "1266574f331996cd369270fe7402641733754de0210129103c74632466802823", func := "fedchat/fedchatlaw44.OnetimeUploads", spec := "onetimeUploads", inPlace := ["internal/bytealg.IndexByteString", "internal/bytealg.IndexString", "slices.overlaps[fedchat/api.OneTime]"], unfollowed := true, recurses := true, named := ["internal/bytealg.MaxLen"], plainKeys := false, apart := false }
def OnetimeUploadsSaid : Prop := onetimeUploadsRow.holds Try.pinned (OpenSpec.ofChange onetimeUploadsSpec)

/-- ITS FALSE NEIGHBOUR: 'it returns false'. Refute it at one input. -/
def onetimeUploadsWrong : ChangeSpec := { name := "onetimeUploads", fn := fun _ => fun
  | [d1, d2, d3] => { results := [.lit (.bool false)], args := [d1, d2, d3] }
  | _ => none }
def OnetimeUploadsWrongFalsely : Prop := onetimeUploadsRow.holds Try.pinned (OpenSpec.ofChange onetimeUploadsWrong)

/-- 'fedchatlaw44.OnetimeClaims': WHATEVER THE INPUT: true; the input reads as it did. -/
def onetimeClaimsSpec : ChangeSpec := { name := "onetimeClaims", fn := fun _ => fun
  | [d1, d2] => { results := [.lit (.bool true)], args := [d1, d2] }
  | _ => none }
def onetimeClaimsRow : OpenClaim := { program := "ytcjlkbffmggekaa", sum := "1266574f331996cd369270fe7402641733754de0210129103c74632466802823", func := "fedchat/fedchatlaw44.OnetimeClaims", spec := "onetimeClaims", inPlace := ["internal/bytealg.IndexByteString", "internal/bytealg.IndexString", "slices.overlaps[fedchat/api.OneTime]"], unfollowed := true, recurses := true, named := ["internal/bytealg.MaxLen"], plainKeys := false, apart := false }
def OnetimeClaimsSaid : Prop := onetimeClaimsRow.holds Try.pinned (OpenSpec.ofChange onetimeClaimsSpec)

/-- ITS FALSE NEIGHBOUR: 'it returns false'. Refute it at one input. -/
def onetimeClaimsWrong : ChangeSpec := { name := "onetimeClaims", fn := fun _ => fun
  | [d1, d2] => { results := [.lit (.bool false)], args := [d1, d2] }
  | _ => none }
def OnetimeClaimsWrongFalsely : Prop := onetimeClaimsRow.holds Try.pinned (OpenSpec.ofChange onetimeClaimsWrong)

/-- 'fedchatlaw44.OnetimeCounts': WHATEVER THE INPUT: true; the input reads as it did. -/
def onetimeCountsSpec : ChangeSpec := { name := "onetimeCounts", fn := fun _ => fun
  | [d1, d2, d3] => { results := [.lit (.bool true)], args := [d1, d2, d3] }
  | _ => none }
def onetimeCountsRow : OpenClaim := { program := "ytcjlkbffmggekaa", sum := "1266574f331996cd369270fe7402641733754de0210129103c74632466802823", func := "fedchat/fedchatlaw44.OnetimeCounts", spec := "onetimeCounts", inPlace := ["internal/bytealg.IndexByteString", "internal/bytealg.IndexString", "slices.overlaps[fedchat/api.OneTime]"], unfollowed := true, recurses := true, named := ["internal/bytealg.MaxLen"], plainKeys := false, apart := false }
def OnetimeCountsSaid : Prop := onetimeCountsRow.holds Try.pinned (OpenSpec.ofChange onetimeCountsSpec)

/-- ITS FALSE NEIGHBOUR: 'it returns false'. Refute it at one input. -/
def onetimeCountsWrong : ChangeSpec := { name := "onetimeCounts", fn := fun _ => fun
  | [d1, d2, d3] => { results := [.lit (.bool false)], args := [d1, d2, d3] }
  | _ => none }
def OnetimeCountsWrongFalsely : Prop := onetimeCountsRow.holds Try.pinned (OpenSpec.ofChange onetimeCountsWrong)

/-- 'fedchatlaw44.OnetimeOnce': WHATEVER THE INPUT: true; the input reads as it did. -/
def onetimeOnceSpec : ChangeSpec := { name := "onetimeOnce", fn := fun _ => fun
  | [d] => { results := [.lit (.bool true)], args := [d] }
  | _ => none }
def onetimeOnceRow : OpenClaim := { program := "ytcjlkbffmggekaa", sum := "1266574f331996cd369270fe7402641733754de0210129103c74632466802823", func := "fedchat/fedchatlaw44.OnetimeOnce", spec := "onetimeOnce", inPlace := ["internal/bytealg.IndexByteString", "internal/bytealg.IndexString", "slices.overlaps[fedchat/api.OneTime]"], unfollowed := true, recurses := true, named := ["internal/bytealg.MaxLen"], plainKeys := false, apart := false }
def OnetimeOnceSaid : Prop := onetimeOnceRow.holds Try.pinned (OpenSpec.ofChange onetimeOnceSpec)

/-- ITS FALSE NEIGHBOUR: 'it returns false'. Refute it at one input. -/
def onetimeOnceWrong : ChangeSpec := { name := "onetimeOnce", fn := fun _ => fun
  | [d] => { results := [.lit (.bool false)], args := [d] }
  | _ => none }
def OnetimeOnceWrongFalsely : Prop := onetimeOnceRow.holds Try.pinned (OpenSpec.ofChange onetimeOnceWrong)

/- THE SECOND FORM. 'bulk': how many values and letters a reading holds, each counted each time it is reached (what is shared counts as often as it is met; a slice's spare places count too). A statement '..UptoSaid' is the law's where the arguments, and the package variables that the reading takes, are together of bulk at most 1048576: NARROWER than '..Said'. Prove '..Said' where nothing that the law and all that it calls make is longer than what came in: it says more and counts as full. Else prove '..UptoSaid'. A law counts once. -/
mutual
def uptoBulk {H : Type} : DataW H → Nat
  | .lit (.string bytes) => bytes.length + 1
  | .lit _ => 1
  | .nil => 1
  | .ptr d => uptoBulk d + 1
  | .slice elems spare => uptoBulkAll elems + uptoBulkAll spare + 1
  | .agg parts => uptoBulkAll parts + 1
  | .iface _ d => uptoBulk d + 1
  | .map entries => uptoBulkEntries entries + 1
  | .held _ => 1
def uptoBulkAll {H : Type} : List (DataW H) → Nat
  | [] => 0
  | d :: r => uptoBulk d + uptoBulkAll r
def uptoBulkEntries {H : Type} : List (Lit × DataW H) → Nat
  | [] => 0
  | x :: r => uptoBulkEntry x + uptoBulkEntries r
def uptoBulkEntry {H : Type} : Lit × DataW H → Nat
  | (.string bytes, d) => bytes.length + uptoBulk d + 1
  | (_, d) => uptoBulk d + 1
 end
def uptoSmall : (H : Type) → List (DataW H) → Bool := fun _ ds => decide (uptoBulkAll ds ≤ 1048576)
def OpenSpec.upto (s : _root_.Go.ChangeSpec) : _root_.Go.OpenSpec := { _root_.Go.OpenSpec.ofChange s with cond := some uptoSmall }

/-- 'fedchatlaw44.OnetimeChecks', WHERE WHAT IT READS IS OF BULK AT MOST 1048576: true; the input reads as it did. -/
def onetimeChecksUptoRow : OpenClaim := { program := "ytcjlkbffmggekaa", sum := "1266574f331996cd369270fe7402641733754de0210129103c74632466802823", func := "fedchat/fedchatlaw44.OnetimeChecks", spec := "onetimeChecks", inPlace := ["internal/bytealg.IndexByteString", "internal/bytealg.IndexString", "slices.overlaps[fedchat/api.OneTime]"], unfollowed := true, recurses := true, named := ["internal/bytealg.MaxLen"], plainKeys := false, apart := false, narrowed := true }
def OnetimeChecksUptoSaid : Prop := onetimeChecksUptoRow.holds Try.pinned (OpenSpec.upto onetimeChecksSpec)

/-- 'fedchatlaw44.OnetimeUploads', WHERE WHAT IT READS IS OF BULK AT MOST 1048576: true; the input reads as it did. -/
def onetimeUploadsUptoRow : OpenClaim := { program := "ytcjlkbffmggekaa", sum := "1266574f331996cd369270fe7402641733754de0210129103c74632466802823", func := "fedchat/fedchatlaw44.OnetimeUploads", spec := "onetimeUploads", inPlace := ["internal/bytealg.IndexByteString", "internal/bytealg.IndexString", "slices.overlaps[fedchat/api.OneTime]"], unfollowed := true, recurses := true, named := ["internal/bytealg.MaxLen"], plainKeys := false, apart := false, narrowed := true }
def OnetimeUploadsUptoSaid : Prop := onetimeUploadsUptoRow.holds Try.pinned (OpenSpec.upto onetimeUploadsSpec)

/-- 'fedchatlaw44.OnetimeClaims', WHERE WHAT IT READS IS OF BULK AT MOST 1048576: true; the input reads as it did. -/
def onetimeClaimsUptoRow : OpenClaim := { program := "ytcjlkbffmggekaa", sum := "1266574f331996cd369270fe7402641733754de0210129103c74632466802823", func := "fedchat/fedchatlaw44.OnetimeClaims", spec := "onetimeClaims", inPlace := ["internal/bytealg.IndexByteString", "internal/bytealg.IndexString", "slices.overlaps[fedchat/api.OneTime]"], unfollowed := true, recurses := true, named := ["internal/bytealg.MaxLen"], plainKeys := false, apart := false, narrowed := true }
def OnetimeClaimsUptoSaid : Prop := onetimeClaimsUptoRow.holds Try.pinned (OpenSpec.upto onetimeClaimsSpec)

/-- 'fedchatlaw44.OnetimeCounts', WHERE WHAT IT READS IS OF BULK AT MOST 1048576: true; the input reads as it did. -/
def onetimeCountsUptoRow : OpenClaim := { program := "ytcjlkbffmggekaa", sum := "1266574f331996cd369270fe7402641733754de0210129103c74632466802823", func := "fedchat/fedchatlaw44.OnetimeCounts", spec := "onetimeCounts", inPlace := ["internal/bytealg.IndexByteString", "internal/bytealg.IndexString", "slices.overlaps[fedchat/api.OneTime]"], unfollowed := true, recurses := true, named := ["internal/bytealg.MaxLen"], plainKeys := false, apart := false, narrowed := true }
def OnetimeCountsUptoSaid : Prop := onetimeCountsUptoRow.holds Try.pinned (OpenSpec.upto onetimeCountsSpec)

/-- 'fedchatlaw44.OnetimeOnce', WHERE WHAT IT READS IS OF BULK AT MOST 1048576: true; the input reads as it did. -/
def onetimeOnceUptoRow : OpenClaim := { program := "ytcjlkbffmggekaa", sum := "1266574f331996cd369270fe7402641733754de0210129103c74632466802823", func := "fedchat/fedchatlaw44.OnetimeOnce", spec := "onetimeOnce", inPlace := ["internal/bytealg.IndexByteString", "internal/bytealg.IndexString", "slices.overlaps[fedchat/api.OneTime]"], unfollowed := true, recurses := true, named := ["internal/bytealg.MaxLen"], plainKeys := false, apart := false, narrowed := true }
def OnetimeOnceUptoSaid : Prop := onetimeOnceUptoRow.holds Try.pinned (OpenSpec.upto onetimeOnceSpec)

end Rows
end Go.Proofs.Ytcjlkbffmggekaa
