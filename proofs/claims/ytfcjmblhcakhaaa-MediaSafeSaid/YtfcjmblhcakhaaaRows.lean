/-
  No cell of these rows narrows 'for every input' (looked for: loops, veiled, ifaces, maps, wideKeys, modest, calm, conditions, laid).
  DERIVED. THE GIVEN ROWS OF THIS SEAT. 6 by the template 'for every input the law returns true; each argument reads behind the call as it read before'; 0 by the template 'total and deterministic' (their statements: YtfcjmblhcakhaaaTotals.lean).
  GIVEN WITH THE SEED: the statements are not yours to turn. If you find one false, say at which input.
  Laid BY PROGRAM, IN A SANDBOX (cutbox-rows.mjs): the forced cells as the released guide's own fill.sh prints them over the translation e10976f92c2bab98… (all of the seat's roots in one cut). By AI agents, Wed Nov 11 2026. No macro, syntax, notation, axiom, sorry.
-/
import Derived.Test.YtfcjmblhcakhaaaChecked
import GoSem.Claim
import GoSem.ClaimJoined
import GoSem.ClaimMapViews
import Derived.JoinedTies
import Derived.KernelRfl
namespace Go.Proofs.Ytfcjmblhcakhaaa
/- THE CELL 'sum', in the pinned program and in every row, IS THE sha256 OF THE DUMP (.gsa) THAT YtfcjmblhcakhaaaProg.lean LOADS. Nothing in Lean hashes anything: it is a label: what it is worth is what the hold of that sum in a sandbox is worth. -/
noncomputable def Try.pinned : Pinned := { name := "ytfcjmblhcakhaaa", sum := "e10976f92c2bab988e9449fb5610c1dd2179606c4e996c49dc2b5163dc3d1505", checked := Try.checked }
namespace Rows
def none {H : Type} : Left H := { results := [], args := [] }

/-- 'fedchatlaw50.MediaChecks': WHATEVER THE INPUT: true; the input reads as it did. -/
def mediaChecksSpec : ChangeSpec := { name := "mediaChecks", fn := fun _ => fun
  | [d1, d2, d3] => { results := [.lit (.bool true)], args := [d1, d2, d3] }
  | _ => none }
def mediaChecksRow : OpenClaim := { program := "ytfcjmblhcakhaaa", sum := "e10976f92c2bab988e9449fb5610c1dd2179606c4e996c49dc2b5163dc3d1505", func := "fedchat/fedchatlaw50.MediaChecks", spec := "mediaChecks", inPlace := ["slices.overlaps[fedchat/api.Media]"], unfollowed := true, recurses := true, apart := false }
def MediaChecksSaid : Prop := mediaChecksRow.holds Try.pinned (OpenSpec.ofChange mediaChecksSpec)

/-- ITS FALSE NEIGHBOUR: 'it returns false'. Refute it at one input. -/
def mediaChecksWrong : ChangeSpec := { name := "mediaChecks", fn := fun _ => fun
  | [d1, d2, d3] => { results := [.lit (.bool false)], args := [d1, d2, d3] }
  | _ => none }
def MediaChecksWrongFalsely : Prop := mediaChecksRow.holds Try.pinned (OpenSpec.ofChange mediaChecksWrong)

/-- 'fedchatlaw50.MediaAdds': WHATEVER THE INPUT: true; the input reads as it did. -/
def mediaAddsSpec : ChangeSpec := { name := "mediaAdds", fn := fun _ => fun
  | [d1, d2] => { results := [.lit (.bool true)], args := [d1, d2] }
  | _ => none }
def mediaAddsRow : OpenClaim := { program := "ytfcjmblhcakhaaa", sum := "e10976f92c2bab988e9449fb5610c1dd2179606c4e996c49dc2b5163dc3d1505", func := "fedchat/fedchatlaw50.MediaAdds", spec := "mediaAdds", inPlace := ["slices.overlaps[fedchat/api.Media]"], unfollowed := true, recurses := true, apart := false }
def MediaAddsSaid : Prop := mediaAddsRow.holds Try.pinned (OpenSpec.ofChange mediaAddsSpec)

/-- ITS FALSE NEIGHBOUR: 'it returns false'. Refute it at one input. -/
def mediaAddsWrong : ChangeSpec := { name := "mediaAdds", fn := fun _ => fun
  | [d1, d2] => { results := [.lit (.bool false)], args := [d1, d2] }
  | _ => none }
def MediaAddsWrongFalsely : Prop := mediaAddsRow.holds Try.pinned (OpenSpec.ofChange mediaAddsWrong)

/-- 'fedchatlaw50.MediaFetches': WHATEVER THE INPUT: true; the input reads as it did. -/
def mediaFetchesSpec : ChangeSpec := { name := "mediaFetches", fn := fun _ => fun
  | [d1, d2] => { results := [.lit (.bool true)], args := [d1, d2] }
  | _ => none }
def mediaFetchesRow : OpenClaim := { program := "ytfcjmblhcakhaaa", sum := "e10976f92c2bab988e9449fb5610c1dd2179606c4e996c49dc2b5163dc3d1505", func := "fedchat/fedchatlaw50.MediaFetches", spec := "mediaFetches", inPlace := ["slices.overlaps[fedchat/api.Media]"], unfollowed := true, recurses := true, apart := false }
def MediaFetchesSaid : Prop := mediaFetchesRow.holds Try.pinned (OpenSpec.ofChange mediaFetchesSpec)

/-- ITS FALSE NEIGHBOUR: 'it returns false'. Refute it at one input. -/
def mediaFetchesWrong : ChangeSpec := { name := "mediaFetches", fn := fun _ => fun
  | [d1, d2] => { results := [.lit (.bool false)], args := [d1, d2] }
  | _ => none }
def MediaFetchesWrongFalsely : Prop := mediaFetchesRow.holds Try.pinned (OpenSpec.ofChange mediaFetchesWrong)

/-- 'fedchatlaw50.MediaExpires': WHATEVER THE INPUT: true; the input reads as it did. -/
def mediaExpiresSpec : ChangeSpec := { name := "mediaExpires", fn := fun _ => fun
  | [d1, d2] => { results := [.lit (.bool true)], args := [d1, d2] }
  | _ => none }
def mediaExpiresRow : OpenClaim := { program := "ytfcjmblhcakhaaa", sum := "e10976f92c2bab988e9449fb5610c1dd2179606c4e996c49dc2b5163dc3d1505", func := "fedchat/fedchatlaw50.MediaExpires", spec := "mediaExpires", inPlace := ["slices.overlaps[fedchat/api.Media]"], unfollowed := true, recurses := true, apart := false }
def MediaExpiresSaid : Prop := mediaExpiresRow.holds Try.pinned (OpenSpec.ofChange mediaExpiresSpec)

/-- ITS FALSE NEIGHBOUR: 'it returns false'. Refute it at one input. -/
def mediaExpiresWrong : ChangeSpec := { name := "mediaExpires", fn := fun _ => fun
  | [d1, d2] => { results := [.lit (.bool false)], args := [d1, d2] }
  | _ => none }
def MediaExpiresWrongFalsely : Prop := mediaExpiresRow.holds Try.pinned (OpenSpec.ofChange mediaExpiresWrong)

/-- 'fedchatlaw50.MediaSafe': WHATEVER THE INPUT: true; the input reads as it did. -/
def mediaSafeSpec : ChangeSpec := { name := "mediaSafe", fn := fun _ => fun
  | [d1, d2, d3] => { results := [.lit (.bool true)], args := [d1, d2, d3] }
  | _ => none }
def mediaSafeRow : OpenClaim := { program := "ytfcjmblhcakhaaa", sum := "e10976f92c2bab988e9449fb5610c1dd2179606c4e996c49dc2b5163dc3d1505", func := "fedchat/fedchatlaw50.MediaSafe", spec := "mediaSafe", inPlace := ["slices.overlaps[fedchat/api.Media]"], unfollowed := true, recurses := true, apart := false }
def MediaSafeSaid : Prop := mediaSafeRow.holds Try.pinned (OpenSpec.ofChange mediaSafeSpec)

/-- ITS FALSE NEIGHBOUR: 'it returns false'. Refute it at one input. -/
def mediaSafeWrong : ChangeSpec := { name := "mediaSafe", fn := fun _ => fun
  | [d1, d2, d3] => { results := [.lit (.bool false)], args := [d1, d2, d3] }
  | _ => none }
def MediaSafeWrongFalsely : Prop := mediaSafeRow.holds Try.pinned (OpenSpec.ofChange mediaSafeWrong)

/-- 'fedchatlaw50.MediaOwn': WHATEVER THE INPUT: true; the input reads as it did. -/
def mediaOwnSpec : ChangeSpec := { name := "mediaOwn", fn := fun _ => fun
  | [d1, d2] => { results := [.lit (.bool true)], args := [d1, d2] }
  | _ => none }
def mediaOwnRow : OpenClaim := { program := "ytfcjmblhcakhaaa", sum := "e10976f92c2bab988e9449fb5610c1dd2179606c4e996c49dc2b5163dc3d1505", func := "fedchat/fedchatlaw50.MediaOwn", spec := "mediaOwn", inPlace := ["slices.overlaps[fedchat/api.Media]"], unfollowed := true, recurses := true, apart := false }
def MediaOwnSaid : Prop := mediaOwnRow.holds Try.pinned (OpenSpec.ofChange mediaOwnSpec)

/-- ITS FALSE NEIGHBOUR: 'it returns false'. Refute it at one input. -/
def mediaOwnWrong : ChangeSpec := { name := "mediaOwn", fn := fun _ => fun
  | [d1, d2] => { results := [.lit (.bool false)], args := [d1, d2] }
  | _ => none }
def MediaOwnWrongFalsely : Prop := mediaOwnRow.holds Try.pinned (OpenSpec.ofChange mediaOwnWrong)

/- THE SECOND FORM. 'bulk': how many values and letters a reading holds, each counted each time it is reached (what is shared counts as often as it is met; a slice's spare places count too). A statement '..UptoSaid' is the law's where the arguments, and the package variables that the reading takes, are together of bulk at most 1048576: NARROWER than '..Said'. Prove '..Said' where nothing that the law and all that it calls make is longer than what came in: it says more and counts as full. Else prove '..UptoSaid'. A law counts once. -/
mutual
def uptoBulk {H : Type} : DataW H → Nat
  | .lit (.string bytes) => bytes.length + 1
  | .lit _ => 1
  | .nil => 1
  | .ptr d => uptoBulk d + 1
  | .slice elems spare => uptoBulkAll elems + uptoBulkAll spare + 1
  | .agg parts => uptoBulkAll parts + 1
  | .iface _ d => uptoBulk d + 1
  | .map entries => uptoBulkEntries entries + 1
  | .held _ => 1
def uptoBulkAll {H : Type} : List (DataW H) → Nat
  | [] => 0
  | d :: r => uptoBulk d + uptoBulkAll r
def uptoBulkEntries {H : Type} : List (Lit × DataW H) → Nat
  | [] => 0
  | x :: r => uptoBulkEntry x + uptoBulkEntries r
def uptoBulkEntry {H : Type} : Lit × DataW H → Nat
  | (.string bytes, d) => bytes.length + uptoBulk d + 1
  | (_, d) => uptoBulk d + 1
 end
def uptoSmall : (H : Type) → List (DataW H) → Bool := fun _ ds => decide (uptoBulkAll ds ≤ 1048576)
def OpenSpec.upto (s : _root_.Go.ChangeSpec) : _root_.Go.OpenSpec := { _root_.Go.OpenSpec.ofChange s with cond := some uptoSmall }

/-- 'fedchatlaw50.MediaChecks', WHERE WHAT IT READS IS OF BULK AT MOST 1048576: true; the input reads as it did. -/
def mediaChecksUptoRow : OpenClaim := { program := "ytfcjmblhcakhaaa", sum := "e10976f92c2bab988e9449fb5610c1dd2179606c4e996c49dc2b5163dc3d1505", func := "fedchat/fedchatlaw50.MediaChecks", spec := "mediaChecks", inPlace := ["slices.overlaps[fedchat/api.Media]"], unfollowed := true, recurses := true, apart := false, narrowed := true }
def MediaChecksUptoSaid : Prop := mediaChecksUptoRow.holds Try.pinned (OpenSpec.upto mediaChecksSpec)

/-- 'fedchatlaw50.MediaAdds', WHERE WHAT IT READS IS OF BULK AT MOST 1048576: true; the input reads as it did. -/
def mediaAddsUptoRow : OpenClaim := { program := "ytfcjmblhcakhaaa", sum := "e10976f92c2bab988e9449fb5610c1dd2179606c4e996c49dc2b5163dc3d1505", func := "fedchat/fedchatlaw50.MediaAdds", spec := "mediaAdds", inPlace := ["slices.overlaps[fedchat/api.Media]"], unfollowed := true, recurses := true, apart := false, narrowed := true }
def MediaAddsUptoSaid : Prop := mediaAddsUptoRow.holds Try.pinned (OpenSpec.upto mediaAddsSpec)

/-- 'fedchatlaw50.MediaFetches', WHERE WHAT IT READS IS OF BULK AT MOST 1048576: true; the input reads as it did. -/
def mediaFetchesUptoRow : OpenClaim := { program := "ytfcjmblhcakhaaa", sum := "e10976f92c2bab988e9449fb5610c1dd2179606c4e996c49dc2b5163dc3d1505", func := "fedchat/fedchatlaw50.MediaFetches", spec := "mediaFetches", inPlace := ["slices.overlaps[fedchat/api.Media]"], unfollowed := true, recurses := true, apart := false, narrowed := true }
def MediaFetchesUptoSaid : Prop := mediaFetchesUptoRow.holds Try.pinned (OpenSpec.upto mediaFetchesSpec)

/-- 'fedchatlaw50.MediaExpires', WHERE WHAT IT READS IS OF BULK AT MOST 1048576: true; the input reads as it did. -/
def mediaExpiresUptoRow : OpenClaim := { program := "ytfcjmblhcakhaaa", sum := "e10976f92c2bab988e9449fb5610c1dd2179606c4e996c49dc2b5163dc3d1505", func := "fedchat/fedchatlaw50.MediaExpires", spec := "mediaExpires", inPlace := ["slices.overlaps[fedchat/api.Media]"], unfollowed := true, recurses := true, apart := false, narrowed := true }
def MediaExpiresUptoSaid : Prop := mediaExpiresUptoRow.holds Try.pinned (OpenSpec.upto mediaExpiresSpec)

/-- 'fedchatlaw50.MediaSafe', WHERE WHAT IT READS IS OF BULK AT MOST 1048576: true; the input reads as it did. -/
def mediaSafeUptoRow : OpenClaim := { program := "ytfcjmblhcakhaaa", sum := "e10976f92c2bab988e9449fb5610c1dd2179606c4e996c49dc2b5163dc3d1505", func := "fedchat/fedchatlaw50.MediaSafe", spec := "mediaSafe", inPlace := ["slices.overlaps[fedchat/api.Media]"], unfollowed := true, recurses := true, apart := false, narrowed := true }
def MediaSafeUptoSaid : Prop := mediaSafeUptoRow.holds Try.pinned (OpenSpec.upto mediaSafeSpec)

/-- 'fedchatlaw50.MediaOwn', WHERE WHAT IT READS IS OF BULK AT MOST 1048576: true; the input reads as it did. -/
def mediaOwnUptoRow : OpenClaim := { program := "ytfcjmblhcakhaaa", sum := "e10976f92c2bab988e9449fb5610c1dd2179606c4e996c49dc2b5163dc3d1505", func := "fedchat/fedchatlaw50.MediaOwn", spec := "mediaOwn", inPlace := ["slices.overlaps[fedchat/api.Media]"], unfollowed := true, recurses := true, apart := false, narrowed := true }
def MediaOwnUptoSaid : Prop := mediaOwnUptoRow.holds Try.pinned (OpenSpec.upto mediaOwnSpec)

end Rows
end Go.Proofs.Ytfcjmblhcakhaaa
