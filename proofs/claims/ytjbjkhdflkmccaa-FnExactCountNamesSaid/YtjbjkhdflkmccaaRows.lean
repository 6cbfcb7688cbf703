/-
  No cell of these rows narrows 'for every input' (looked for: loops, veiled, ifaces, maps, wideKeys, modest, calm, conditions, laid).
  DERIVED. THE GIVEN ROWS OF THIS SEAT. 11 by the template 'for every input the law returns true; each argument reads behind the call as it read before'; 0 by the template 'total and deterministic' (their statements: YtjbjkhdflkmccaaTotals.lean).
  GIVEN WITH THE SEED: the statements are not yours to turn. If you find one false, say at which input.
  Laid BY PROGRAM, IN A SANDBOX (cutbox-rows.mjs): the forced cells as the released guide's own fill.sh prints them over the translation 401f3c8556b6ef24… (all of the seat's roots in one cut). By AI agents, Wed Nov 11 2026. No macro, syntax, notation, axiom, sorry.
-/
import Derived.Test.YtjbjkhdflkmccaaChecked
import GoSem.Claim
import GoSem.ClaimJoined
import GoSem.ClaimMapViews
import Derived.JoinedTies
import Derived.KernelRfl
namespace Go.Proofs.Ytjbjkhdflkmccaa
/- THE CELL 'sum', in the pinned program and in every row, IS THE sha256 OF THE DUMP (.gsa) THAT YtjbjkhdflkmccaaProg.lean LOADS. Nothing in Lean hashes anything: it is a label: what it is worth is what the hold of that sum in a sandbox is worth. -/
noncomputable def Try.pinned : Pinned := { name := "ytjbjkhdflkmccaa", sum := "401f3c8556b6ef24b5c6c5be34d8a1849395c92365bfd32416a3eb527f27f8c1", checked := Try.checked }
namespace Rows
def none {H : Type} : Left H := { results := [], args := [] }

/-- 'laws.FnExactShortestWay': WHATEVER THE INPUT: true; the input reads as it did. -/
def fnExactShortestWaySpec : ChangeSpec := { name := "fnExactShortestWay", fn := fun _ => fun
  | [d1, d2, d3, d4] => { results := [.lit (.bool true)], args := [d1, d2, d3, d4] }
  | _ => none }
def fnExactShortestWayRow : OpenClaim := { program := "ytjbjkhdflkmccaa", sum := "401f3c8556b6ef24b5c6c5be34d8a1849395c92365bfd32416a3eb527f27f8c1", func := "loop.example/g03005/laws.FnExactShortestWay", spec := "fnExactShortestWay", plainKeys := false, apart := false }
def FnExactShortestWaySaid : Prop := fnExactShortestWayRow.holds Try.pinned (OpenSpec.ofChange fnExactShortestWaySpec)

/-- ITS FALSE NEIGHBOUR: 'it returns false'. Refute it at one input. -/
def fnExactShortestWayWrong : ChangeSpec := { name := "fnExactShortestWay", fn := fun _ => fun
  | [d1, d2, d3, d4] => { results := [.lit (.bool false)], args := [d1, d2, d3, d4] }
  | _ => none }
def FnExactShortestWayWrongFalsely : Prop := fnExactShortestWayRow.holds Try.pinned (OpenSpec.ofChange fnExactShortestWayWrong)

/-- 'laws.FnExactTakeEntry': WHATEVER THE INPUT: true; the input reads as it did. -/
def fnExactTakeEntrySpec : ChangeSpec := { name := "fnExactTakeEntry", fn := fun _ => fun
  | [d1, d2] => { results := [.lit (.bool true)], args := [d1, d2] }
  | _ => none }
def fnExactTakeEntryRow : OpenClaim := { program := "ytjbjkhdflkmccaa", sum := "401f3c8556b6ef24b5c6c5be34d8a1849395c92365bfd32416a3eb527f27f8c1", func := "loop.example/g03005/laws.FnExactTakeEntry", spec := "fnExactTakeEntry", inPlace := ["slices.overlaps[loop.example/g03005/impl.Entry]"], plainKeys := false, apart := false }
def FnExactTakeEntrySaid : Prop := fnExactTakeEntryRow.holds Try.pinned (OpenSpec.ofChange fnExactTakeEntrySpec)

/-- ITS FALSE NEIGHBOUR: 'it returns false'. Refute it at one input. -/
def fnExactTakeEntryWrong : ChangeSpec := { name := "fnExactTakeEntry", fn := fun _ => fun
  | [d1, d2] => { results := [.lit (.bool false)], args := [d1, d2] }
  | _ => none }
def FnExactTakeEntryWrongFalsely : Prop := fnExactTakeEntryRow.holds Try.pinned (OpenSpec.ofChange fnExactTakeEntryWrong)

/-- 'laws.FnExactMergeLogs': WHATEVER THE INPUT: true; the input reads as it did. -/
def fnExactMergeLogsSpec : ChangeSpec := { name := "fnExactMergeLogs", fn := fun _ => fun
  | [d1, d2] => { results := [.lit (.bool true)], args := [d1, d2] }
  | _ => none }
def fnExactMergeLogsRow : OpenClaim := { program := "ytjbjkhdflkmccaa", sum := "401f3c8556b6ef24b5c6c5be34d8a1849395c92365bfd32416a3eb527f27f8c1", func := "loop.example/g03005/laws.FnExactMergeLogs", spec := "fnExactMergeLogs", inPlace := ["slices.overlaps[loop.example/g03005/impl.Entry]"], plainKeys := false, apart := false }
def FnExactMergeLogsSaid : Prop := fnExactMergeLogsRow.holds Try.pinned (OpenSpec.ofChange fnExactMergeLogsSpec)

/-- ITS FALSE NEIGHBOUR: 'it returns false'. Refute it at one input. -/
def fnExactMergeLogsWrong : ChangeSpec := { name := "fnExactMergeLogs", fn := fun _ => fun
  | [d1, d2] => { results := [.lit (.bool false)], args := [d1, d2] }
  | _ => none }
def FnExactMergeLogsWrongFalsely : Prop := fnExactMergeLogsRow.holds Try.pinned (OpenSpec.ofChange fnExactMergeLogsWrong)

/-- 'laws.FnEditors': WHATEVER THE INPUT: true; the input reads as it did. -/
def fnEditorsSpec : ChangeSpec := { name := "fnEditors", fn := fun _ => fun
  | [d] => { results := [.lit (.bool true)], args := [d] }
  | _ => none }
def fnEditorsRow : OpenClaim := { program := "ytjbjkhdflkmccaa", sum := "401f3c8556b6ef24b5c6c5be34d8a1849395c92365bfd32416a3eb527f27f8c1", func := "loop.example/g03005/laws.FnEditors", spec := "fnEditors", inPlace := ["slices.overlaps[loop.example/g03005/impl.Entry]"], unfollowed := true, recurses := true, plainKeys := false, apart := false }
def FnEditorsSaid : Prop := fnEditorsRow.holds Try.pinned (OpenSpec.ofChange fnEditorsSpec)

/-- ITS FALSE NEIGHBOUR: 'it returns false'. Refute it at one input. -/
def fnEditorsWrong : ChangeSpec := { name := "fnEditors", fn := fun _ => fun
  | [d] => { results := [.lit (.bool false)], args := [d] }
  | _ => none }
def FnEditorsWrongFalsely : Prop := fnEditorsRow.holds Try.pinned (OpenSpec.ofChange fnEditorsWrong)

/-- 'laws.FnExactApplyEdit': WHATEVER THE INPUT: true; the input reads as it did. -/
def fnExactApplyEditSpec : ChangeSpec := { name := "fnExactApplyEdit", fn := fun _ => fun
  | [d1, d2] => { results := [.lit (.bool true)], args := [d1, d2] }
  | _ => none }
def fnExactApplyEditRow : OpenClaim := { program := "ytjbjkhdflkmccaa", sum := "401f3c8556b6ef24b5c6c5be34d8a1849395c92365bfd32416a3eb527f27f8c1", func := "loop.example/g03005/laws.FnExactApplyEdit", spec := "fnExactApplyEdit", inPlace := ["slices.overlaps[loop.example/g03005/impl.Feature]"], unfollowed := true, recurses := true, plainKeys := false, apart := false }
def FnExactApplyEditSaid : Prop := fnExactApplyEditRow.holds Try.pinned (OpenSpec.ofChange fnExactApplyEditSpec)

/-- ITS FALSE NEIGHBOUR: 'it returns false'. Refute it at one input. -/
def fnExactApplyEditWrong : ChangeSpec := { name := "fnExactApplyEdit", fn := fun _ => fun
  | [d1, d2] => { results := [.lit (.bool false)], args := [d1, d2] }
  | _ => none }
def FnExactApplyEditWrongFalsely : Prop := fnExactApplyEditRow.holds Try.pinned (OpenSpec.ofChange fnExactApplyEditWrong)

/-- 'laws.FnExactUndoOf': WHATEVER THE INPUT: true; the input reads as it did. -/
def fnExactUndoOfSpec : ChangeSpec := { name := "fnExactUndoOf", fn := fun _ => fun
  | [d1, d2] => { results := [.lit (.bool true)], args := [d1, d2] }
  | _ => none }
def fnExactUndoOfRow : OpenClaim := { program := "ytjbjkhdflkmccaa", sum := "401f3c8556b6ef24b5c6c5be34d8a1849395c92365bfd32416a3eb527f27f8c1", func := "loop.example/g03005/laws.FnExactUndoOf", spec := "fnExactUndoOf", inPlace := ["slices.overlaps[loop.example/g03005/impl.Feature]"], unfollowed := true, recurses := true, plainKeys := false, apart := false }
def FnExactUndoOfSaid : Prop := fnExactUndoOfRow.holds Try.pinned (OpenSpec.ofChange fnExactUndoOfSpec)

/-- ITS FALSE NEIGHBOUR: 'it returns false'. Refute it at one input. -/
def fnExactUndoOfWrong : ChangeSpec := { name := "fnExactUndoOf", fn := fun _ => fun
  | [d1, d2] => { results := [.lit (.bool false)], args := [d1, d2] }
  | _ => none }
def FnExactUndoOfWrongFalsely : Prop := fnExactUndoOfRow.holds Try.pinned (OpenSpec.ofChange fnExactUndoOfWrong)

/-- 'laws.FnExactCountNames': WHATEVER THE INPUT: true; the input reads as it did. -/
def fnExactCountNamesSpec : ChangeSpec := { name := "fnExactCountNames", fn := fun _ => fun
  | [d] => { results := [.lit (.bool true)], args := [d] }
  | _ => none }
def fnExactCountNamesRow : OpenClaim := { program := "ytjbjkhdflkmccaa", sum := "401f3c8556b6ef24b5c6c5be34d8a1849395c92365bfd32416a3eb527f27f8c1", func := "loop.example/g03005/laws.FnExactCountNames", spec := "fnExactCountNames", recurses := true, plainKeys := false, apart := false }
def FnExactCountNamesSaid : Prop := fnExactCountNamesRow.holds Try.pinned (OpenSpec.ofChange fnExactCountNamesSpec)

/-- ITS FALSE NEIGHBOUR: 'it returns false'. Refute it at one input. -/
def fnExactCountNamesWrong : ChangeSpec := { name := "fnExactCountNames", fn := fun _ => fun
  | [d] => { results := [.lit (.bool false)], args := [d] }
  | _ => none }
def FnExactCountNamesWrongFalsely : Prop := fnExactCountNamesRow.holds Try.pinned (OpenSpec.ofChange fnExactCountNamesWrong)

/-- 'laws.FnExactEditionAt': WHATEVER THE INPUT: true; the input reads as it did. -/
def fnExactEditionAtSpec : ChangeSpec := { name := "fnExactEditionAt", fn := fun _ => fun
  | [d1, d2] => { results := [.lit (.bool true)], args := [d1, d2] }
  | _ => none }
def fnExactEditionAtRow : OpenClaim := { program := "ytjbjkhdflkmccaa", sum := "401f3c8556b6ef24b5c6c5be34d8a1849395c92365bfd32416a3eb527f27f8c1", func := "loop.example/g03005/laws.FnExactEditionAt", spec := "fnExactEditionAt", unfollowed := true, recurses := true, plainKeys := false, apart := false }
def FnExactEditionAtSaid : Prop := fnExactEditionAtRow.holds Try.pinned (OpenSpec.ofChange fnExactEditionAtSpec)

/-- ITS FALSE NEIGHBOUR: 'it returns false'. Refute it at one input. -/
def fnExactEditionAtWrong : ChangeSpec := { name := "fnExactEditionAt", fn := fun _ => fun
  | [d1, d2] => { results := [.lit (.bool false)], args := [d1, d2] }
  | _ => none }
def FnExactEditionAtWrongFalsely : Prop := fnExactEditionAtRow.holds Try.pinned (OpenSpec.ofChange fnExactEditionAtWrong)

/-- 'laws.FnExactAddEdition': WHATEVER THE INPUT: true; the input reads as it did. -/
def fnExactAddEditionSpec : ChangeSpec := { name := "fnExactAddEdition", fn := fun _ => fun
  | [d1, d2, d3] => { results := [.lit (.bool true)], args := [d1, d2, d3] }
  | _ => none }
def fnExactAddEditionRow : OpenClaim := { program := "ytjbjkhdflkmccaa", sum := "401f3c8556b6ef24b5c6c5be34d8a1849395c92365bfd32416a3eb527f27f8c1", func := "loop.example/g03005/laws.FnExactAddEdition", spec := "fnExactAddEdition", unfollowed := true, recurses := true, plainKeys := false, apart := false }
def FnExactAddEditionSaid : Prop := fnExactAddEditionRow.holds Try.pinned (OpenSpec.ofChange fnExactAddEditionSpec)

/-- ITS FALSE NEIGHBOUR: 'it returns false'. Refute it at one input. -/
def fnExactAddEditionWrong : ChangeSpec := { name := "fnExactAddEdition", fn := fun _ => fun
  | [d1, d2, d3] => { results := [.lit (.bool false)], args := [d1, d2, d3] }
  | _ => none }
def FnExactAddEditionWrongFalsely : Prop := fnExactAddEditionRow.holds Try.pinned (OpenSpec.ofChange fnExactAddEditionWrong)

/-- 'laws.FnExactApplyEdits': WHATEVER THE INPUT: true; the input reads as it did. -/
def fnExactApplyEditsSpec : ChangeSpec := { name := "fnExactApplyEdits", fn := fun _ => fun
  | [d1, d2] => { results := [.lit (.bool true)], args := [d1, d2] }
  | _ => none }
def fnExactApplyEditsRow : OpenClaim := { program := "ytjbjkhdflkmccaa", sum := "401f3c8556b6ef24b5c6c5be34d8a1849395c92365bfd32416a3eb527f27f8c1", func := "loop.example/g03005/laws.FnExactApplyEdits", spec := "fnExactApplyEdits", inPlace := ["slices.overlaps[loop.example/g03005/impl.Feature]"], unfollowed := true, recurses := true, plainKeys := false, apart := false }
def FnExactApplyEditsSaid : Prop := fnExactApplyEditsRow.holds Try.pinned (OpenSpec.ofChange fnExactApplyEditsSpec)

/-- ITS FALSE NEIGHBOUR: 'it returns false'. Refute it at one input. -/
def fnExactApplyEditsWrong : ChangeSpec := { name := "fnExactApplyEdits", fn := fun _ => fun
  | [d1, d2] => { results := [.lit (.bool false)], args := [d1, d2] }
  | _ => none }
def FnExactApplyEditsWrongFalsely : Prop := fnExactApplyEditsRow.holds Try.pinned (OpenSpec.ofChange fnExactApplyEditsWrong)

/-- 'laws.FnExactReachedFrom': WHATEVER THE INPUT: true; the input reads as it did. -/
def fnExactReachedFromSpec : ChangeSpec := { name := "fnExactReachedFrom", fn := fun _ => fun
  | [d1, d2, d3] => { results := [.lit (.bool true)], args := [d1, d2, d3] }
  | _ => none }
def fnExactReachedFromRow : OpenClaim := { program := "ytjbjkhdflkmccaa", sum := "401f3c8556b6ef24b5c6c5be34d8a1849395c92365bfd32416a3eb527f27f8c1", func := "loop.example/g03005/laws.FnExactReachedFrom", spec := "fnExactReachedFrom", unfollowed := true, recurses := true, plainKeys := false, apart := false }
def FnExactReachedFromSaid : Prop := fnExactReachedFromRow.holds Try.pinned (OpenSpec.ofChange fnExactReachedFromSpec)

/-- ITS FALSE NEIGHBOUR: 'it returns false'. Refute it at one input. -/
def fnExactReachedFromWrong : ChangeSpec := { name := "fnExactReachedFrom", fn := fun _ => fun
  | [d1, d2, d3] => { results := [.lit (.bool false)], args := [d1, d2, d3] }
  | _ => none }
def FnExactReachedFromWrongFalsely : Prop := fnExactReachedFromRow.holds Try.pinned (OpenSpec.ofChange fnExactReachedFromWrong)

/- THE SECOND FORM. 'bulk': how many values and letters a reading holds, each counted each time it is reached (what is shared counts as often as it is met; a slice's spare places count too). A statement '..UptoSaid' is the law's where the arguments, and the package variables that the reading takes, are together of bulk at most 1048576: NARROWER than '..Said'. Prove '..Said' where nothing that the law and all that it calls make is longer than what came in: it says more and counts as full. Else prove '..UptoSaid'. A law counts once. -/
mutual
def uptoBulk {H : Type} : DataW H → Nat
  | .lit (.string bytes) => bytes.length + 1
  | .lit _ => 1
  | .nil => 1
  | .ptr d => uptoBulk d + 1
  | .slice elems spare => uptoBulkAll elems + uptoBulkAll spare + 1
  | .agg parts => uptoBulkAll parts + 1
  | .iface _ d => uptoBulk d + 1
  | .map entries => uptoBulkEntries entries + 1
  | .held _ => 1
def uptoBulkAll {H : Type} : List (DataW H) → Nat
  | [] => 0
  | d :: r => uptoBulk d + uptoBulkAll r
def uptoBulkEntries {H : Type} : List (Lit × DataW H) → Nat
  | [] => 0
  | x :: r => uptoBulkEntry x + uptoBulkEntries r
def uptoBulkEntry {H : Type} : Lit × DataW H → Nat
  | (.string bytes, d) => bytes.length + uptoBulk d + 1
  | (_, d) => uptoBulk d + 1
 end
def uptoSmall : (H : Type) → List (DataW H) → Bool := fun _ ds => decide (uptoBulkAll ds ≤ 1048576)
def OpenSpec.upto (s : _root_.Go.ChangeSpec) : _root_.Go.OpenSpec := { _root_.Go.OpenSpec.ofChange s with cond := some uptoSmall }

/-- 'laws.FnExactShortestWay', WHERE WHAT IT READS IS OF BULK AT MOST 1048576: true; the input reads as it did. -/
def fnExactShortestWayUptoRow : OpenClaim := { program := "ytjbjkhdflkmccaa", sum := "401f3c8556b6ef24b5c6c5be34d8a1849395c92365bfd32416a3eb527f27f8c1", func := "loop.example/g03005/laws.FnExactShortestWay", spec := "fnExactShortestWay", plainKeys := false, apart := false, narrowed := true }
def FnExactShortestWayUptoSaid : Prop := fnExactShortestWayUptoRow.holds Try.pinned (OpenSpec.upto fnExactShortestWaySpec)

/-- 'laws.FnExactTakeEntry', WHERE WHAT IT READS IS OF BULK AT MOST 1048576: true; the input reads as it did. -/
def fnExactTakeEntryUptoRow : OpenClaim := { program := "ytjbjkhdflkmccaa", sum := "401f3c8556b6ef24b5c6c5be34d8a1849395c92365bfd32416a3eb527f27f8c1", func := "loop.example/g03005/laws.FnExactTakeEntry", spec := "fnExactTakeEntry", inPlace := ["slices.overlaps[loop.example/g03005/impl.Entry]"], plainKeys := false, apart := false, narrowed := true }
def FnExactTakeEntryUptoSaid : Prop := fnExactTakeEntryUptoRow.holds Try.pinned (OpenSpec.upto fnExactTakeEntrySpec)

/-- 'laws.FnExactMergeLogs', WHERE WHAT IT READS IS OF BULK AT MOST 1048576: true; the input reads as it did. -/
def fnExactMergeLogsUptoRow : OpenClaim := { program := "ytjbjkhdflkmccaa", sum := "401f3c8556b6ef24b5c6c5be34d8a1849395c92365bfd32416a3eb527f27f8c1", func := "loop.example/g03005/laws.FnExactMergeLogs", spec := "fnExactMergeLogs", inPlace := ["slices.overlaps[loop.example/g03005/impl.Entry]"], plainKeys := false, apart := false, narrowed := true }
def FnExactMergeLogsUptoSaid : Prop := fnExactMergeLogsUptoRow.holds Try.pinned (OpenSpec.upto fnExactMergeLogsSpec)

/-- 'laws.FnEditors', WHERE WHAT IT READS IS OF BULK AT MOST 1048576: true; the input reads as it did. -/
def fnEditorsUptoRow : OpenClaim := { program := "ytjbjkhdflkmccaa", sum := "401f3c8556b6ef24b5c6c5be34d8a1849395c92365bfd32416a3eb527f27f8c1", func := "loop.example/g03005/laws.FnEditors", spec := "fnEditors", inPlace := ["slices.overlaps[loop.example/g03005/impl.Entry]"], unfollowed := true, recurses := true, plainKeys := false, apart := false, narrowed := true }
def FnEditorsUptoSaid : Prop := fnEditorsUptoRow.holds Try.pinned (OpenSpec.upto fnEditorsSpec)

/-- 'laws.FnExactApplyEdit', WHERE WHAT IT READS IS OF BULK AT MOST 1048576: true; the input reads as it did. -/
def fnExactApplyEditUptoRow : OpenClaim := { program := "ytjbjkhdflkmccaa", sum := "401f3c8556b6ef24b5c6c5be34d8a1849395c92365bfd32416a3eb527f27f8c1", func := "loop.example/g03005/laws.FnExactApplyEdit", spec := "fnExactApplyEdit", inPlace := ["slices.overlaps[loop.example/g03005/impl.Feature]"], unfollowed := true, recurses := true, plainKeys := false, apart := false, narrowed := true }
def FnExactApplyEditUptoSaid : Prop := fnExactApplyEditUptoRow.holds Try.pinned (OpenSpec.upto fnExactApplyEditSpec)

/-- 'laws.FnExactUndoOf', WHERE WHAT IT READS IS OF BULK AT MOST 1048576: true; the input reads as it did. -/
def fnExactUndoOfUptoRow : OpenClaim := { program := "ytjbjkhdflkmccaa", sum := "401f3c8556b6ef24b5c6c5be34d8a1849395c92365bfd32416a3eb527f27f8c1", func := "loop.example/g03005/laws.FnExactUndoOf", spec := "fnExactUndoOf", inPlace := ["slices.overlaps[loop.example/g03005/impl.Feature]"], unfollowed := true, recurses := true, plainKeys := false, apart := false, narrowed := true }
def FnExactUndoOfUptoSaid : Prop := fnExactUndoOfUptoRow.holds Try.pinned (OpenSpec.upto fnExactUndoOfSpec)

/-- 'laws.FnExactCountNames', WHERE WHAT IT READS IS OF BULK AT MOST 1048576: true; the input reads as it did. -/
def fnExactCountNamesUptoRow : OpenClaim := { program := "ytjbjkhdflkmccaa", sum := "401f3c8556b6ef24b5c6c5be34d8a1849395c92365bfd32416a3eb527f27f8c1", func := "loop.example/g03005/laws.FnExactCountNames", spec := "fnExactCountNames", recurses := true, plainKeys := false, apart := false, narrowed := true }
def FnExactCountNamesUptoSaid : Prop := fnExactCountNamesUptoRow.holds Try.pinned (OpenSpec.upto fnExactCountNamesSpec)

/-- 'laws.FnExactEditionAt', WHERE WHAT IT READS IS OF BULK AT MOST 1048576: true; the input reads as it did. -/
def fnExactEditionAtUptoRow : OpenClaim := { program := "ytjbjkhdflkmccaa", sum := "401f3c8556b6ef24b5c6c5be34d8a1849395c92365bfd32416a3eb527f27f8c1", func := "loop.example/g03005/laws.FnExactEditionAt", spec := "fnExactEditionAt", unfollowed := true, recurses := true, plainKeys := false, apart := false, narrowed := true }
def FnExactEditionAtUptoSaid : Prop := fnExactEditionAtUptoRow.holds Try.pinned (OpenSpec.upto fnExactEditionAtSpec)

/-- 'laws.FnExactAddEdition', WHERE WHAT IT READS IS OF BULK AT MOST 1048576: true; the input reads as it did. -/
def fnExactAddEditionUptoRow : OpenClaim := { program := "ytjbjkhdflkmccaa", sum := "401f3c8556b6ef24b5c6c5be34d8a1849395c92365bfd32416a3eb527f27f8c1", func := "loop.example/g03005/laws.FnExactAddEdition", spec := "fnExactAddEdition", unfollowed := true, recurses := true, plainKeys := false, apart := false, narrowed := true }
def FnExactAddEditionUptoSaid : Prop := fnExactAddEditionUptoRow.holds Try.pinned (OpenSpec.upto fnExactAddEditionSpec)

/-- 'laws.FnExactApplyEdits', WHERE WHAT IT READS IS OF BULK AT MOST 1048576: true; the input reads as it did. -/
def fnExactApplyEditsUptoRow : OpenClaim := { program := "ytjbjkhdflkmccaa", sum := "401f3c8556b6ef24b5c6c5be34d8a1849395c92365bfd32416a3eb527f27f8c1", func := "loop.example/g03005/laws.FnExactApplyEdits", spec := "fnExactApplyEdits", inPlace := ["slices.overlaps[loop.example/g03005/impl.Feature]"], unfollowed := true, recurses := true, plainKeys := false, apart := false, narrowed := true }
def FnExactApplyEditsUptoSaid : Prop := fnExactApplyEditsUptoRow.holds Try.pinned (OpenSpec.upto fnExactApplyEditsSpec)

/-- 'laws.FnExactReachedFrom', WHERE WHAT IT READS IS OF BULK AT MOST 1048576: true; the input reads as it did. -/
def fnExactReachedFromUptoRow : OpenClaim := { program := "ytjbjkhdflkmccaa", sum := "401f3c8556b6ef24b5c6c5be34d8a1849395c92365bfd32416a3eb527f27f8c1", func := "loop.example/g03005/laws.FnExactReachedFrom", spec := "fnExactReachedFrom", unfollowed := true, recurses := true, plainKeys := false, apart := false, narrowed := true }
def FnExactReachedFromUptoSaid : Prop := fnExactReachedFromUptoRow.holds Try.pinned (OpenSpec.upto fnExactReachedFromSpec)

end Rows
end Go.Proofs.Ytjbjkhdflkmccaa
