/-
  No cell of these rows narrows 'for every input' (looked for: loops, veiled, ifaces, maps, wideKeys, modest, calm, conditions, laid).
  DERIVED. THE GIVEN ROWS OF THIS SEAT. 11 by the template 'for every input the law returns true; each argument reads behind the call as it read before'; 0 by the template 'total and deterministic' (their statements: YthackanfbemabaaTotals.lean).
  GIVEN WITH THE SEED: the statements are not yours to turn. If you find one false, say at which input.
  Laid BY PROGRAM, IN A SANDBOX (cutbox-rows.mjs): the forced cells as the released guide's own fill.sh prints them over the translation 32a31a7207d7c53e… (all of the seat's roots in one cut). By AI agents, Wed Nov 11 2026. No macro, syntax, notation, axiom, sorry.
-/
import Derived.Test.YthackanfbemabaaChecked
import GoSem.Claim
import GoSem.ClaimJoined
import GoSem.ClaimMapViews
import Derived.JoinedTies
import Derived.KernelRfl
namespace Go.Proofs.Ythackanfbemabaa
/- THE CELL 'sum', in the pinned program and in every row, IS THE sha256 OF THE DUMP (.gsa) THAT YthackanfbemabaaProg.lean LOADS. Nothing in Lean hashes anything: it is a label: what it is worth is what the hold of that sum in a sandbox is worth. -/
noncomputable def Try.pinned : Pinned := { name := "ythackanfbemabaa", sum := "32a31a7207d7c53ed28c82da2df909f92db444300377b20d01dce1a84cdf3cc2", checked := Try.checked }
namespace Rows
def none {H : Type} : Left H := { results := [], args := [] }

/-- 'fedchatlaw13.RulesOf': WHATEVER THE INPUT: true; the input reads as it did. -/
def rulesOfSpec : ChangeSpec := { name := "rulesOf", fn := fun _ => fun
  | [d] => { results := [.lit (.bool true)], args := [d] }
  | _ => none }
def rulesOfRow : OpenClaim := { program := "ythackanfbemabaa", sum := "32a31a7207d7c53ed28c82da2df909f92db444300377b20d01dce1a84cdf3cc2", func := "fedchat/fedchatlaw13.RulesOf", spec := "rulesOf", unfollowed := true, recurses := true, apart := false }
def RulesOfSaid : Prop := rulesOfRow.holds Try.pinned (OpenSpec.ofChange rulesOfSpec)

/-- ITS FALSE NEIGHBOUR: 'it returns false'. Refute it at one input. -/
def rulesOfWrong : ChangeSpec := { name := "rulesOf", fn := fun _ => fun
  | [d] => { results := [.lit (.bool false)], args := [d] }
  | _ => none }
def RulesOfWrongFalsely : Prop := rulesOfRow.holds Try.pinned (OpenSpec.ofChange rulesOfWrong)

/-- 'fedchatlaw13.RulesJoins': WHATEVER THE INPUT: true; the input reads as it did. -/
def rulesJoinsSpec : ChangeSpec := { name := "rulesJoins", fn := fun _ => fun
  | [d1, d2] => { results := [.lit (.bool true)], args := [d1, d2] }
  | _ => none }
def rulesJoinsRow : OpenClaim := { program := "ythackanfbemabaa", sum := "32a31a7207d7c53ed28c82da2df909f92db444300377b20d01dce1a84cdf3cc2", func := "fedchat/fedchatlaw13.RulesJoins", spec := "rulesJoins", unfollowed := true, recurses := true, apart := false }
def RulesJoinsSaid : Prop := rulesJoinsRow.holds Try.pinned (OpenSpec.ofChange rulesJoinsSpec)

/-- ITS FALSE NEIGHBOUR: 'it returns false'. Refute it at one input. -/
def rulesJoinsWrong : ChangeSpec := { name := "rulesJoins", fn := fun _ => fun
  | [d1, d2] => { results := [.lit (.bool false)], args := [d1, d2] }
  | _ => none }
def RulesJoinsWrongFalsely : Prop := rulesJoinsRow.holds Try.pinned (OpenSpec.ofChange rulesJoinsWrong)

/-- 'fedchatlaw13.RulesVia': WHATEVER THE INPUT: true; the input reads as it did. -/
def rulesViaSpec : ChangeSpec := { name := "rulesVia", fn := fun _ => fun
  | [d1, d2] => { results := [.lit (.bool true)], args := [d1, d2] }
  | _ => none }
def rulesViaRow : OpenClaim := { program := "ythackanfbemabaa", sum := "32a31a7207d7c53ed28c82da2df909f92db444300377b20d01dce1a84cdf3cc2", func := "fedchat/fedchatlaw13.RulesVia", spec := "rulesVia", unfollowed := true, recurses := true, apart := false }
def RulesViaSaid : Prop := rulesViaRow.holds Try.pinned (OpenSpec.ofChange rulesViaSpec)

/-- ITS FALSE NEIGHBOUR: 'it returns false'. Refute it at one input. -/
def rulesViaWrong : ChangeSpec := { name := "rulesVia", fn := fun _ => fun
  | [d1, d2] => { results := [.lit (.bool false)], args := [d1, d2] }
  | _ => none }
def RulesViaWrongFalsely : Prop := rulesViaRow.holds Try.pinned (OpenSpec.ofChange rulesViaWrong)

/-- 'fedchatlaw13.RulesInvited': WHATEVER THE INPUT: true; the input reads as it did. -/
def rulesInvitedSpec : ChangeSpec := { name := "rulesInvited", fn := fun _ => fun
  | [d1, d2] => { results := [.lit (.bool true)], args := [d1, d2] }
  | _ => none }
def rulesInvitedRow : OpenClaim := { program := "ythackanfbemabaa", sum := "32a31a7207d7c53ed28c82da2df909f92db444300377b20d01dce1a84cdf3cc2", func := "fedchat/fedchatlaw13.RulesInvited", spec := "rulesInvited", unfollowed := true, recurses := true, apart := false }
def RulesInvitedSaid : Prop := rulesInvitedRow.holds Try.pinned (OpenSpec.ofChange rulesInvitedSpec)

/-- ITS FALSE NEIGHBOUR: 'it returns false'. Refute it at one input. -/
def rulesInvitedWrong : ChangeSpec := { name := "rulesInvited", fn := fun _ => fun
  | [d1, d2] => { results := [.lit (.bool false)], args := [d1, d2] }
  | _ => none }
def RulesInvitedWrongFalsely : Prop := rulesInvitedRow.holds Try.pinned (OpenSpec.ofChange rulesInvitedWrong)

/-- 'fedchatlaw13.RulesStrangers': WHATEVER THE INPUT: true; the input reads as it did. -/
def rulesStrangersSpec : ChangeSpec := { name := "rulesStrangers", fn := fun _ => fun
  | [d1, d2] => { results := [.lit (.bool true)], args := [d1, d2] }
  | _ => none }
def rulesStrangersRow : OpenClaim := { program := "ythackanfbemabaa", sum := "32a31a7207d7c53ed28c82da2df909f92db444300377b20d01dce1a84cdf3cc2", func := "fedchat/fedchatlaw13.RulesStrangers", spec := "rulesStrangers", unfollowed := true, recurses := true, apart := false }
def RulesStrangersSaid : Prop := rulesStrangersRow.holds Try.pinned (OpenSpec.ofChange rulesStrangersSpec)

/-- ITS FALSE NEIGHBOUR: 'it returns false'. Refute it at one input. -/
def rulesStrangersWrong : ChangeSpec := { name := "rulesStrangers", fn := fun _ => fun
  | [d1, d2] => { results := [.lit (.bool false)], args := [d1, d2] }
  | _ => none }
def RulesStrangersWrongFalsely : Prop := rulesStrangersRow.holds Try.pinned (OpenSpec.ofChange rulesStrangersWrong)

/-- 'fedchatlaw11.LevelsUsers': WHATEVER THE INPUT: true; the input reads as it did. -/
def levelsUsersSpec : ChangeSpec := { name := "levelsUsers", fn := fun _ => fun
  | [d1, d2, d3] => { results := [.lit (.bool true)], args := [d1, d2, d3] }
  | _ => none }
def levelsUsersRow : OpenClaim := { program := "ythackanfbemabaa", sum := "32a31a7207d7c53ed28c82da2df909f92db444300377b20d01dce1a84cdf3cc2", func := "fedchat/fedchatlaw11.LevelsUsers", spec := "levelsUsers", unfollowed := true, recurses := true, apart := false }
def LevelsUsersSaid : Prop := levelsUsersRow.holds Try.pinned (OpenSpec.ofChange levelsUsersSpec)

/-- ITS FALSE NEIGHBOUR: 'it returns false'. Refute it at one input. -/
def levelsUsersWrong : ChangeSpec := { name := "levelsUsers", fn := fun _ => fun
  | [d1, d2, d3] => { results := [.lit (.bool false)], args := [d1, d2, d3] }
  | _ => none }
def LevelsUsersWrongFalsely : Prop := levelsUsersRow.holds Try.pinned (OpenSpec.ofChange levelsUsersWrong)

/-- 'fedchatlaw11.LevelsOf': WHATEVER THE INPUT: true; the input reads as it did. -/
def levelsOfSpec : ChangeSpec := { name := "levelsOf", fn := fun _ => fun
  | [d] => { results := [.lit (.bool true)], args := [d] }
  | _ => none }
def levelsOfRow : OpenClaim := { program := "ythackanfbemabaa", sum := "32a31a7207d7c53ed28c82da2df909f92db444300377b20d01dce1a84cdf3cc2", func := "fedchat/fedchatlaw11.LevelsOf", spec := "levelsOf", unfollowed := true, recurses := true, apart := false }
def LevelsOfSaid : Prop := levelsOfRow.holds Try.pinned (OpenSpec.ofChange levelsOfSpec)

/-- ITS FALSE NEIGHBOUR: 'it returns false'. Refute it at one input. -/
def levelsOfWrong : ChangeSpec := { name := "levelsOf", fn := fun _ => fun
  | [d] => { results := [.lit (.bool false)], args := [d] }
  | _ => none }
def LevelsOfWrongFalsely : Prop := levelsOfRow.holds Try.pinned (OpenSpec.ofChange levelsOfWrong)

/-- 'fedchatlaw11.LevelsChanges': WHATEVER THE INPUT: true; the input reads as it did. -/
def levelsChangesSpec : ChangeSpec := { name := "levelsChanges", fn := fun _ => fun
  | [d1, d2, d3] => { results := [.lit (.bool true)], args := [d1, d2, d3] }
  | _ => none }
def levelsChangesRow : OpenClaim := { program := "ythackanfbemabaa", sum := "32a31a7207d7c53ed28c82da2df909f92db444300377b20d01dce1a84cdf3cc2", func := "fedchat/fedchatlaw11.LevelsChanges", spec := "levelsChanges", unfollowed := true, recurses := true, apart := false }
def LevelsChangesSaid : Prop := levelsChangesRow.holds Try.pinned (OpenSpec.ofChange levelsChangesSpec)

/-- ITS FALSE NEIGHBOUR: 'it returns false'. Refute it at one input. -/
def levelsChangesWrong : ChangeSpec := { name := "levelsChanges", fn := fun _ => fun
  | [d1, d2, d3] => { results := [.lit (.bool false)], args := [d1, d2, d3] }
  | _ => none }
def LevelsChangesWrongFalsely : Prop := levelsChangesRow.holds Try.pinned (OpenSpec.ofChange levelsChangesWrong)

/-- 'fedchatlaw11.LevelsSames': WHATEVER THE INPUT: true; the input reads as it did. -/
def levelsSamesSpec : ChangeSpec := { name := "levelsSames", fn := fun _ => fun
  | [d1, d2] => { results := [.lit (.bool true)], args := [d1, d2] }
  | _ => none }
def levelsSamesRow : OpenClaim := { program := "ythackanfbemabaa", sum := "32a31a7207d7c53ed28c82da2df909f92db444300377b20d01dce1a84cdf3cc2", func := "fedchat/fedchatlaw11.LevelsSames", spec := "levelsSames", unfollowed := true, recurses := true, apart := false }
def LevelsSamesSaid : Prop := levelsSamesRow.holds Try.pinned (OpenSpec.ofChange levelsSamesSpec)

/-- ITS FALSE NEIGHBOUR: 'it returns false'. Refute it at one input. -/
def levelsSamesWrong : ChangeSpec := { name := "levelsSames", fn := fun _ => fun
  | [d1, d2] => { results := [.lit (.bool false)], args := [d1, d2] }
  | _ => none }
def LevelsSamesWrongFalsely : Prop := levelsSamesRow.holds Try.pinned (OpenSpec.ofChange levelsSamesWrong)

/-- 'fedchatlaw11.LevelsSafe': WHATEVER THE INPUT: true; the input reads as it did. -/
def levelsSafeSpec : ChangeSpec := { name := "levelsSafe", fn := fun _ => fun
  | [d1, d2, d3] => { results := [.lit (.bool true)], args := [d1, d2, d3] }
  | _ => none }
def levelsSafeRow : OpenClaim := { program := "ythackanfbemabaa", sum := "32a31a7207d7c53ed28c82da2df909f92db444300377b20d01dce1a84cdf3cc2", func := "fedchat/fedchatlaw11.LevelsSafe", spec := "levelsSafe", unfollowed := true, recurses := true, apart := false }
def LevelsSafeSaid : Prop := levelsSafeRow.holds Try.pinned (OpenSpec.ofChange levelsSafeSpec)

/-- ITS FALSE NEIGHBOUR: 'it returns false'. Refute it at one input. -/
def levelsSafeWrong : ChangeSpec := { name := "levelsSafe", fn := fun _ => fun
  | [d1, d2, d3] => { results := [.lit (.bool false)], args := [d1, d2, d3] }
  | _ => none }
def LevelsSafeWrongFalsely : Prop := levelsSafeRow.holds Try.pinned (OpenSpec.ofChange levelsSafeWrong)

/-- 'fedchatlaw11.LevelsOrders': WHATEVER THE INPUT: true; the input reads as it did. -/
def levelsOrdersSpec : ChangeSpec := { name := "levelsOrders", fn := fun _ => fun
  | [d1, d2, d3] => { results := [.lit (.bool true)], args := [d1, d2, d3] }
  | _ => none }
def levelsOrdersRow : OpenClaim := { program := "ythackanfbemabaa", sum := "32a31a7207d7c53ed28c82da2df909f92db444300377b20d01dce1a84cdf3cc2", func := "fedchat/fedchatlaw11.LevelsOrders", spec := "levelsOrders", unfollowed := true, recurses := true, apart := false }
def LevelsOrdersSaid : Prop := levelsOrdersRow.holds Try.pinned (OpenSpec.ofChange levelsOrdersSpec)

/-- ITS FALSE NEIGHBOUR: 'it returns false'. Refute it at one input. -/
def levelsOrdersWrong : ChangeSpec := { name := "levelsOrders", fn := fun _ => fun
  | [d1, d2, d3] => { results := [.lit (.bool false)], args := [d1, d2, d3] }
  | _ => none }
def LevelsOrdersWrongFalsely : Prop := levelsOrdersRow.holds Try.pinned (OpenSpec.ofChange levelsOrdersWrong)

/- THE SECOND FORM. 'bulk': how many values and letters a reading holds, each counted each time it is reached (what is shared counts as often as it is met; a slice's spare places count too). A statement '..UptoSaid' is the law's where the arguments, and the package variables that the reading takes, are together of bulk at most 1048576: NARROWER than '..Said'. Prove '..Said' where nothing that the law and all that it calls make is longer than what came in: it says more and counts as full. Else prove '..UptoSaid'. A law counts once. -/
mutual
def uptoBulk {H : Type} : DataW H → Nat
  | .lit (.string bytes) => bytes.length + 1
  | .lit _ => 1
  | .nil => 1
  | .ptr d => uptoBulk d + 1
  | .slice elems spare => uptoBulkAll elems + uptoBulkAll spare + 1
  | .agg parts => uptoBulkAll parts + 1
  | .iface _ d => uptoBulk d + 1
  | .map entries => uptoBulkEntries entries + 1
  | .held _ => 1
def uptoBulkAll {H : Type} : List (DataW H) → Nat
  | [] => 0
  | d :: r => uptoBulk d + uptoBulkAll r
def uptoBulkEntries {H : Type} : List (Lit × DataW H) → Nat
  | [] => 0
  | x :: r => uptoBulkEntry x + uptoBulkEntries r
def uptoBulkEntry {H : Type} : Lit × DataW H → Nat
  | (.string bytes, d) => bytes.length + uptoBulk d + 1
  | (_, d) => uptoBulk d + 1
 end
def uptoSmall : (H : Type) → List (DataW H) → Bool := fun _ ds => decide (uptoBulkAll ds ≤ 1048576)
def OpenSpec.upto (s : _root_.Go.ChangeSpec) : _root_.Go.OpenSpec := { _root_.Go.OpenSpec.ofChange s with cond := some uptoSmall }

/-- 'fedchatlaw13.RulesOf', WHERE WHAT IT READS IS OF BULK AT MOST 1048576: true; the input reads as it did. -/
def rulesOfUptoRow : OpenClaim := { program := "ythackanfbemabaa", sum := "32a31a7207d7c53ed28c82da2df909f92db444300377b20d01dce1a84cdf3cc2", func := "fedchat/fedchatlaw13.RulesOf", spec := "rulesOf", unfollowed := true, recurses := true, apart := false, narrowed := true }
def RulesOfUptoSaid : Prop := rulesOfUptoRow.holds Try.pinned (OpenSpec.upto rulesOfSpec)

/-- 'fedchatlaw13.RulesJoins', WHERE WHAT IT READS IS OF BULK AT MOST 1048576: true; the input reads as it did. -/
def rulesJoinsUptoRow : OpenClaim := { program := "ythackanfbemabaa", sum := "32a31a7207d7c53ed28c82da2df909f92db444300377b20d01dce1a84cdf3cc2", func := "fedchat/fedchatlaw13.RulesJoins", spec := "rulesJoins", unfollowed := true, recurses := true, apart := false, narrowed := true }
def RulesJoinsUptoSaid : Prop := rulesJoinsUptoRow.holds Try.pinned (OpenSpec.upto rulesJoinsSpec)

/-- 'fedchatlaw13.RulesVia', WHERE WHAT IT READS IS OF BULK AT MOST 1048576: true; the input reads as it did. -/
def rulesViaUptoRow : OpenClaim := { program := "ythackanfbemabaa", sum := "32a31a7207d7c53ed28c82da2df909f92db444300377b20d01dce1a84cdf3cc2", func := "fedchat/fedchatlaw13.RulesVia", spec := "rulesVia", unfollowed := true, recurses := true, apart := false, narrowed := true }
def RulesViaUptoSaid : Prop := rulesViaUptoRow.holds Try.pinned (OpenSpec.upto rulesViaSpec)

/-- 'fedchatlaw13.RulesInvited', WHERE WHAT IT READS IS OF BULK AT MOST 1048576: true; the input reads as it did. -/
def rulesInvitedUptoRow : OpenClaim := { program := "ythackanfbemabaa", sum := "32a31a7207d7c53ed28c82da2df909f92db444300377b20d01dce1a84cdf3cc2", func := "fedchat/fedchatlaw13.RulesInvited", spec := "rulesInvited", unfollowed := true, recurses := true, apart := false, narrowed := true }
def RulesInvitedUptoSaid : Prop := rulesInvitedUptoRow.holds Try.pinned (OpenSpec.upto rulesInvitedSpec)

/-- 'fedchatlaw13.RulesStrangers', WHERE WHAT IT READS IS OF BULK AT MOST 1048576: true; the input reads as it did. -/
def rulesStrangersUptoRow : OpenClaim := { program := "ythackanfbemabaa", sum := "32a31a7207d7c53ed28c82da2df909f92db444300377b20d01dce1a84cdf3cc2", func := "fedchat/fedchatlaw13.RulesStrangers", spec := "rulesStrangers", unfollowed := true, recurses := true, apart := false, narrowed := true }
def RulesStrangersUptoSaid : Prop := rulesStrangersUptoRow.holds Try.pinned (OpenSpec.upto rulesStrangersSpec)

/-- 'fedchatlaw11.LevelsUsers', WHERE WHAT IT READS IS OF BULK AT MOST 1048576: true; the input reads as it did. -/
def levelsUsersUptoRow : OpenClaim := { program := "ythackanfbemabaa", sum := "32a31a7207d7c53ed28c82da2df909f92db444300377b20d01dce1a84cdf3cc2", func := "fedchat/fedchatlaw11.LevelsUsers", spec := "levelsUsers", unfollowed := true, recurses := true, apart := false, narrowed := true }
def LevelsUsersUptoSaid : Prop := levelsUsersUptoRow.holds Try.pinned (OpenSpec.upto levelsUsersSpec)

/-- 'fedchatlaw11.LevelsOf', WHERE WHAT IT READS IS OF BULK AT MOST 1048576: true; the input reads as it did. -/
def levelsOfUptoRow : OpenClaim := { program := "ythackanfbemabaa", sum := "32a31a7207d7c53ed28c82da2df909f92db444300377b20d01dce1a84cdf3cc2", func := "fedchat/fedchatlaw11.LevelsOf", spec := "levelsOf", unfollowed := true, recurses := true, apart := false, narrowed := true }
def LevelsOfUptoSaid : Prop := levelsOfUptoRow.holds Try.pinned (OpenSpec.upto levelsOfSpec)

/-- 'fedchatlaw11.LevelsChanges', WHERE WHAT IT READS IS OF BULK AT MOST 1048576: true; the input reads as it did. -/
def levelsChangesUptoRow : OpenClaim := { program := "ythackanfbemabaa", sum := "32a31a7207d7c53ed28c82da2df909f92db444300377b20d01dce1a84cdf3cc2", func := "fedchat/fedchatlaw11.LevelsChanges", spec := "levelsChanges", unfollowed := true, recurses := true, apart := false, narrowed := true }
def LevelsChangesUptoSaid : Prop := levelsChangesUptoRow.holds Try.pinned (OpenSpec.upto levelsChangesSpec)

/-- 'fedchatlaw11.LevelsSames', WHERE WHAT IT READS IS OF BULK AT MOST 1048576: true; the input reads as it did. -/
def levelsSamesUptoRow : OpenClaim := { program := "ythackanfbemabaa", sum := "32a31a7207d7c53ed28c82da2df909f92db444300377b20d01dce1a84cdf3cc2", func := "fedchat/fedchatlaw11.LevelsSames", spec := "levelsSames", unfollowed := true, recurses := true, apart := false, narrowed := true }
def LevelsSamesUptoSaid : Prop := levelsSamesUptoRow.holds Try.pinned (OpenSpec.upto levelsSamesSpec)

/-- 'fedchatlaw11.LevelsSafe', WHERE WHAT IT READS IS OF BULK AT MOST 1048576: true; the input reads as it did. -/
def levelsSafeUptoRow : OpenClaim := { program := "ythackanfbemabaa", sum := "32a31a7207d7c53ed28c82da2df909f92db444300377b20d01dce1a84cdf3cc2", func := "fedchat/fedchatlaw11.LevelsSafe", spec := "levelsSafe", unfollowed := true, recurses := true, apart := false, narrowed := true }
def LevelsSafeUptoSaid : Prop := levelsSafeUptoRow.holds Try.pinned (OpenSpec.upto levelsSafeSpec)

/-- 'fedchatlaw11.LevelsOrders', WHERE WHAT IT READS IS OF BULK AT MOST 1048576: true; the input reads as it did. -/
def levelsOrdersUptoRow : OpenClaim := { program := "ythackanfbemabaa", sum := "32a31a7207d7c53ed28c82da2df909f92db444300377b20d01dce1a84cdf3cc2", func := "fedchat/fedchatlaw11.LevelsOrders", spec := "levelsOrders", unfollowed := true, recurses := true, apart := false, narrowed := true }
def LevelsOrdersUptoSaid : Prop := levelsOrdersUptoRow.holds Try.pinned (OpenSpec.upto levelsOrdersSpec)

end Rows
end Go.Proofs.Ythackanfbemabaa
