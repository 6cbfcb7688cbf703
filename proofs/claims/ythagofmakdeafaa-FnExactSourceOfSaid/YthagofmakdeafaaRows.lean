/-
  No cell of these rows narrows 'for every input' (looked for: loops, veiled, ifaces, maps, wideKeys, modest, calm, conditions, laid).
  DERIVED. THE GIVEN ROWS OF THIS SEAT. 10 by the template 'for every input the law returns true; each argument reads behind the call as it read before'; 0 by the template 'total and deterministic' (their statements: YthagofmakdeafaaTotals.lean).
  GIVEN WITH THE SEED: the statements are not yours to turn. If you find one false, say at which input.
  Laid BY PROGRAM, IN A SANDBOX (cutbox-rows.mjs): the forced cells as the released guide's own fill.sh prints them over the translation 3d2f92dc79928467… (all of the seat's roots in one cut). By AI agents, Wed Nov 11 2026. No macro, syntax, notation, axiom, sorry.
-/
import Derived.Test.YthagofmakdeafaaChecked
import GoSem.Claim
import GoSem.ClaimJoined
import GoSem.ClaimMapViews
import Derived.JoinedTies
import Derived.KernelRfl
namespace Go.Proofs.Ythagofmakdeafaa
/- THE CELL 'sum', in the pinned program and in every row, IS THE sha256 OF THE DUMP (.gsa) THAT YthagofmakdeafaaProg.lean LOADS. Nothing in Lean hashes anything: it is a label: what it is worth is what the hold of that sum in a sandbox is worth. -/
noncomputable def Try.pinned : Pinned := { name := "ythagofmakdeafaa", sum := "3d2f92dc799284673c2fa5f0d235e108c9b8627fc47fd51bd9a14d683304930e", checked := Try.checked }
namespace Rows
def none {H : Type} : Left H := { results := [], args := [] }

/-- 'laws.FnExactRoadsFrom': WHATEVER THE INPUT: true; the input reads as it did. -/
def fnExactRoadsFromSpec : ChangeSpec := { name := "fnExactRoadsFrom", fn := fun _ => fun
  | [d1, d2, d3] => { results := [.lit (.bool true)], args := [d1, d2, d3] }
  | _ => none }
def fnExactRoadsFromRow : OpenClaim := { program := "ythagofmakdeafaa", sum := "3d2f92dc799284673c2fa5f0d235e108c9b8627fc47fd51bd9a14d683304930e", func := "loop.example/g03005/laws.FnExactRoadsFrom", spec := "fnExactRoadsFrom", plainKeys := false, apart := false }
def FnExactRoadsFromSaid : Prop := fnExactRoadsFromRow.holds Try.pinned (OpenSpec.ofChange fnExactRoadsFromSpec)

/-- ITS FALSE NEIGHBOUR: 'it returns false'. Refute it at one input. -/
def fnExactRoadsFromWrong : ChangeSpec := { name := "fnExactRoadsFrom", fn := fun _ => fun
  | [d1, d2, d3] => { results := [.lit (.bool false)], args := [d1, d2, d3] }
  | _ => none }
def FnExactRoadsFromWrongFalsely : Prop := fnExactRoadsFromRow.holds Try.pinned (OpenSpec.ofChange fnExactRoadsFromWrong)

/-- 'laws.FnExactShortestWay': WHATEVER THE INPUT: true; the input reads as it did. -/
def fnExactShortestWaySpec : ChangeSpec := { name := "fnExactShortestWay", fn := fun _ => fun
  | [d1, d2, d3, d4] => { results := [.lit (.bool true)], args := [d1, d2, d3, d4] }
  | _ => none }
def fnExactShortestWayRow : OpenClaim := { program := "ythagofmakdeafaa", sum := "3d2f92dc799284673c2fa5f0d235e108c9b8627fc47fd51bd9a14d683304930e", func := "loop.example/g03005/laws.FnExactShortestWay", spec := "fnExactShortestWay", plainKeys := false, apart := false }
def FnExactShortestWaySaid : Prop := fnExactShortestWayRow.holds Try.pinned (OpenSpec.ofChange fnExactShortestWaySpec)

/-- ITS FALSE NEIGHBOUR: 'it returns false'. Refute it at one input. -/
def fnExactShortestWayWrong : ChangeSpec := { name := "fnExactShortestWay", fn := fun _ => fun
  | [d1, d2, d3, d4] => { results := [.lit (.bool false)], args := [d1, d2, d3, d4] }
  | _ => none }
def FnExactShortestWayWrongFalsely : Prop := fnExactShortestWayRow.holds Try.pinned (OpenSpec.ofChange fnExactShortestWayWrong)

/-- 'laws.FnExactSourceOf': WHATEVER THE INPUT: true; the input reads as it did. -/
def fnExactSourceOfSpec : ChangeSpec := { name := "fnExactSourceOf", fn := fun _ => fun
  | [d] => { results := [.lit (.bool true)], args := [d] }
  | _ => none }
def fnExactSourceOfRow : OpenClaim := { program := "ythagofmakdeafaa", sum := "3d2f92dc799284673c2fa5f0d235e108c9b8627fc47fd51bd9a14d683304930e", func := "loop.example/g03005/laws.FnExactSourceOf", spec := "fnExactSourceOf", plainKeys := false, apart := false }
def FnExactSourceOfSaid : Prop := fnExactSourceOfRow.holds Try.pinned (OpenSpec.ofChange fnExactSourceOfSpec)

/-- ITS FALSE NEIGHBOUR: 'it returns false'. Refute it at one input. -/
def fnExactSourceOfWrong : ChangeSpec := { name := "fnExactSourceOf", fn := fun _ => fun
  | [d] => { results := [.lit (.bool false)], args := [d] }
  | _ => none }
def FnExactSourceOfWrongFalsely : Prop := fnExactSourceOfRow.holds Try.pinned (OpenSpec.ofChange fnExactSourceOfWrong)

/-- 'laws.FnExactSealOf': WHATEVER THE INPUT: true; the input reads as it did. -/
def fnExactSealOfSpec : ChangeSpec := { name := "fnExactSealOf", fn := fun _ => fun
  | [d1, d2, d3] => { results := [.lit (.bool true)], args := [d1, d2, d3] }
  | _ => none }
def fnExactSealOfRow : OpenClaim := { program := "ythagofmakdeafaa", sum := "3d2f92dc799284673c2fa5f0d235e108c9b8627fc47fd51bd9a14d683304930e", func := "loop.example/g03005/laws.FnExactSealOf", spec := "fnExactSealOf", unfollowed := true, recurses := true, plainKeys := false, apart := false }
def FnExactSealOfSaid : Prop := fnExactSealOfRow.holds Try.pinned (OpenSpec.ofChange fnExactSealOfSpec)

/-- ITS FALSE NEIGHBOUR: 'it returns false'. Refute it at one input. -/
def fnExactSealOfWrong : ChangeSpec := { name := "fnExactSealOf", fn := fun _ => fun
  | [d1, d2, d3] => { results := [.lit (.bool false)], args := [d1, d2, d3] }
  | _ => none }
def FnExactSealOfWrongFalsely : Prop := fnExactSealOfRow.holds Try.pinned (OpenSpec.ofChange fnExactSealOfWrong)

/-- 'laws.FnExactAreEditions': WHATEVER THE INPUT: true; the input reads as it did. -/
def fnExactAreEditionsSpec : ChangeSpec := { name := "fnExactAreEditions", fn := fun _ => fun
  | [d] => { results := [.lit (.bool true)], args := [d] }
  | _ => none }
def fnExactAreEditionsRow : OpenClaim := { program := "ythagofmakdeafaa", sum := "3d2f92dc799284673c2fa5f0d235e108c9b8627fc47fd51bd9a14d683304930e", func := "loop.example/g03005/laws.FnExactAreEditions", spec := "fnExactAreEditions", unfollowed := true, recurses := true, plainKeys := false, apart := false }
def FnExactAreEditionsSaid : Prop := fnExactAreEditionsRow.holds Try.pinned (OpenSpec.ofChange fnExactAreEditionsSpec)

/-- ITS FALSE NEIGHBOUR: 'it returns false'. Refute it at one input. -/
def fnExactAreEditionsWrong : ChangeSpec := { name := "fnExactAreEditions", fn := fun _ => fun
  | [d] => { results := [.lit (.bool false)], args := [d] }
  | _ => none }
def FnExactAreEditionsWrongFalsely : Prop := fnExactAreEditionsRow.holds Try.pinned (OpenSpec.ofChange fnExactAreEditionsWrong)

/-- 'laws.FnExactTakeEntry': WHATEVER THE INPUT: true; the input reads as it did. -/
def fnExactTakeEntrySpec : ChangeSpec := { name := "fnExactTakeEntry", fn := fun _ => fun
  | [d1, d2] => { results := [.lit (.bool true)], args := [d1, d2] }
  | _ => none }
def fnExactTakeEntryRow : OpenClaim := { program := "ythagofmakdeafaa", sum := "3d2f92dc799284673c2fa5f0d235e108c9b8627fc47fd51bd9a14d683304930e", func := "loop.example/g03005/laws.FnExactTakeEntry", spec := "fnExactTakeEntry", inPlace := ["slices.overlaps[loop.example/g03005/impl.Entry]"], plainKeys := false, apart := false }
def FnExactTakeEntrySaid : Prop := fnExactTakeEntryRow.holds Try.pinned (OpenSpec.ofChange fnExactTakeEntrySpec)

/-- ITS FALSE NEIGHBOUR: 'it returns false'. Refute it at one input. -/
def fnExactTakeEntryWrong : ChangeSpec := { name := "fnExactTakeEntry", fn := fun _ => fun
  | [d1, d2] => { results := [.lit (.bool false)], args := [d1, d2] }
  | _ => none }
def FnExactTakeEntryWrongFalsely : Prop := fnExactTakeEntryRow.holds Try.pinned (OpenSpec.ofChange fnExactTakeEntryWrong)

/-- 'laws.FnExactMergeLogs': WHATEVER THE INPUT: true; the input reads as it did. -/
def fnExactMergeLogsSpec : ChangeSpec := { name := "fnExactMergeLogs", fn := fun _ => fun
  | [d1, d2] => { results := [.lit (.bool true)], args := [d1, d2] }
  | _ => none }
def fnExactMergeLogsRow : OpenClaim := { program := "ythagofmakdeafaa", sum := "3d2f92dc799284673c2fa5f0d235e108c9b8627fc47fd51bd9a14d683304930e", func := "loop.example/g03005/laws.FnExactMergeLogs", spec := "fnExactMergeLogs", inPlace := ["slices.overlaps[loop.example/g03005/impl.Entry]"], plainKeys := false, apart := false }
def FnExactMergeLogsSaid : Prop := fnExactMergeLogsRow.holds Try.pinned (OpenSpec.ofChange fnExactMergeLogsSpec)

/-- ITS FALSE NEIGHBOUR: 'it returns false'. Refute it at one input. -/
def fnExactMergeLogsWrong : ChangeSpec := { name := "fnExactMergeLogs", fn := fun _ => fun
  | [d1, d2] => { results := [.lit (.bool false)], args := [d1, d2] }
  | _ => none }
def FnExactMergeLogsWrongFalsely : Prop := fnExactMergeLogsRow.holds Try.pinned (OpenSpec.ofChange fnExactMergeLogsWrong)

/-- 'laws.FnEditors': WHATEVER THE INPUT: true; the input reads as it did. -/
def fnEditorsSpec : ChangeSpec := { name := "fnEditors", fn := fun _ => fun
  | [d] => { results := [.lit (.bool true)], args := [d] }
  | _ => none }
def fnEditorsRow : OpenClaim := { program := "ythagofmakdeafaa", sum := "3d2f92dc799284673c2fa5f0d235e108c9b8627fc47fd51bd9a14d683304930e", func := "loop.example/g03005/laws.FnEditors", spec := "fnEditors", inPlace := ["slices.overlaps[loop.example/g03005/impl.Entry]"], unfollowed := true, recurses := true, plainKeys := false, apart := false }
def FnEditorsSaid : Prop := fnEditorsRow.holds Try.pinned (OpenSpec.ofChange fnEditorsSpec)

/-- ITS FALSE NEIGHBOUR: 'it returns false'. Refute it at one input. -/
def fnEditorsWrong : ChangeSpec := { name := "fnEditors", fn := fun _ => fun
  | [d] => { results := [.lit (.bool false)], args := [d] }
  | _ => none }
def FnEditorsWrongFalsely : Prop := fnEditorsRow.holds Try.pinned (OpenSpec.ofChange fnEditorsWrong)

/-- 'laws.FnExactApplyEdit': WHATEVER THE INPUT: true; the input reads as it did. -/
def fnExactApplyEditSpec : ChangeSpec := { name := "fnExactApplyEdit", fn := fun _ => fun
  | [d1, d2] => { results := [.lit (.bool true)], args := [d1, d2] }
  | _ => none }
def fnExactApplyEditRow : OpenClaim := { program := "ythagofmakdeafaa", sum := "3d2f92dc799284673c2fa5f0d235e108c9b8627fc47fd51bd9a14d683304930e", func := "loop.example/g03005/laws.FnExactApplyEdit", spec := "fnExactApplyEdit", inPlace := ["slices.overlaps[loop.example/g03005/impl.Feature]"], unfollowed := true, recurses := true, plainKeys := false, apart := false }
def FnExactApplyEditSaid : Prop := fnExactApplyEditRow.holds Try.pinned (OpenSpec.ofChange fnExactApplyEditSpec)

/-- ITS FALSE NEIGHBOUR: 'it returns false'. Refute it at one input. -/
def fnExactApplyEditWrong : ChangeSpec := { name := "fnExactApplyEdit", fn := fun _ => fun
  | [d1, d2] => { results := [.lit (.bool false)], args := [d1, d2] }
  | _ => none }
def FnExactApplyEditWrongFalsely : Prop := fnExactApplyEditRow.holds Try.pinned (OpenSpec.ofChange fnExactApplyEditWrong)

/-- 'laws.FnExactUndoOf': WHATEVER THE INPUT: true; the input reads as it did. -/
def fnExactUndoOfSpec : ChangeSpec := { name := "fnExactUndoOf", fn := fun _ => fun
  | [d1, d2] => { results := [.lit (.bool true)], args := [d1, d2] }
  | _ => none }
def fnExactUndoOfRow : OpenClaim := { program := "ythagofmakdeafaa", sum := "3d2f92dc799284673c2fa5f0d235e108c9b8627fc47fd51bd9a14d683304930e", func := "loop.example/g03005/laws.FnExactUndoOf", spec := "fnExactUndoOf", inPlace := ["slices.overlaps[loop.example/g03005/impl.Feature]"], unfollowed := true, recurses := true, plainKeys := false, apart := false }
def FnExactUndoOfSaid : Prop := fnExactUndoOfRow.holds Try.pinned (OpenSpec.ofChange fnExactUndoOfSpec)

/-- ITS FALSE NEIGHBOUR: 'it returns false'. Refute it at one input. -/
def fnExactUndoOfWrong : ChangeSpec := { name := "fnExactUndoOf", fn := fun _ => fun
  | [d1, d2] => { results := [.lit (.bool false)], args := [d1, d2] }
  | _ => none }
def FnExactUndoOfWrongFalsely : Prop := fnExactUndoOfRow.holds Try.pinned (OpenSpec.ofChange fnExactUndoOfWrong)

/- THE SECOND FORM. 'bulk': how many values and letters a reading holds, each counted each time it is reached (what is shared counts as often as it is met; a slice's spare places count too). A statement '..UptoSaid' is the law's where the arguments, and the package variables that the reading takes, are together of bulk at most 1048576: NARROWER than '..Said'. Prove '..Said' where nothing that the law and all that it calls make is longer than what came in: it says more and counts as full. Else prove '..UptoSaid'. A law counts once. -/
mutual
def uptoBulk {H : Type} : DataW H → Nat
  | .lit (.string bytes) => bytes.length + 1
  | .lit _ => 1
  | .nil => 1
  | .ptr d => uptoBulk d + 1
  | .slice elems spare => uptoBulkAll elems + uptoBulkAll spare + 1
  | .agg parts => uptoBulkAll parts + 1
  | .iface _ d => uptoBulk d + 1
  | .map entries => uptoBulkEntries entries + 1
  | .held _ => 1
def uptoBulkAll {H : Type} : List (DataW H) → Nat
  | [] => 0
  | d :: r => uptoBulk d + uptoBulkAll r
def uptoBulkEntries {H : Type} : List (Lit × DataW H) → Nat
  | [] => 0
  | x :: r => uptoBulkEntry x + uptoBulkEntries r
def uptoBulkEntry {H : Type} : Lit × DataW H → Nat
  | (.string bytes, d) => bytes.length + uptoBulk d + 1
  | (_, d) => uptoBulk d + 1
 end
def uptoSmall : (H : Type) → List (DataW H) → Bool := fun _ ds => decide (uptoBulkAll ds ≤ 1048576)
def OpenSpec.upto (s : _root_.Go.ChangeSpec) : _root_.Go.OpenSpec := { _root_.Go.OpenSpec.ofChange s with cond := some uptoSmall }

/-- 'laws.FnExactRoadsFrom', WHERE WHAT IT READS IS OF BULK AT MOST 1048576: true; the input reads as it did. -/
def fnExactRoadsFromUptoRow : OpenClaim := { program := "ythagofmakdeafaa", sum := "3d2f92dc799284673c2fa5f0d235e108c9b8627fc47fd51bd9a14d683304930e", func := "loop.example/g03005/laws.FnExactRoadsFrom", spec := "fnExactRoadsFrom", plainKeys := false, apart := false, narrowed := true }
def FnExactRoadsFromUptoSaid : Prop := fnExactRoadsFromUptoRow.holds Try.pinned (OpenSpec.upto fnExactRoadsFromSpec)

/-- 'laws.FnExactShortestWay', WHERE WHAT IT READS IS OF BULK AT MOST 1048576: true; the input reads as it did. -/
def fnExactShortestWayUptoRow : OpenClaim := { program := "ythagofmakdeafaa", sum := "3d2f92dc799284673c2fa5f0d235e108c9b8627fc47fd51bd9a14d683304930e", func := "loop.example/g03005/laws.FnExactShortestWay", spec := "fnExactShortestWay", plainKeys := false, apart := false, narrowed := true }
def FnExactShortestWayUptoSaid : Prop := fnExactShortestWayUptoRow.holds Try.pinned (OpenSpec.upto fnExactShortestWaySpec)

/-- 'laws.FnExactSourceOf', WHERE WHAT IT READS IS OF BULK AT MOST 1048576: true; the input reads as it did. -/
def fnExactSourceOfUptoRow : OpenClaim := { program := "ythagofmakdeafaa", sum := "3d2f92dc799284673c2fa5f0d235e108c9b8627fc47fd51bd9a14d683304930e", func := "loop.example/g03005/laws.FnExactSourceOf", spec := "fnExactSourceOf", plainKeys := false, apart := false, narrowed := true }
def FnExactSourceOfUptoSaid : Prop := fnExactSourceOfUptoRow.holds Try.pinned (OpenSpec.upto fnExactSourceOfSpec)

/-- 'laws.FnExactSealOf', WHERE WHAT IT READS IS OF BULK AT MOST 1048576: true; the input reads as it did. -/
def fnExactSealOfUptoRow : OpenClaim := { program := "ythagofmakdeafaa", sum := "3d2f92dc799284673c2fa5f0d235e108c9b8627fc47fd51bd9a14d683304930e", func := "loop.example/g03005/laws.FnExactSealOf", spec := "fnExactSealOf", unfollowed := true, recurses := true, plainKeys := false, apart := false, narrowed := true }
def FnExactSealOfUptoSaid : Prop := fnExactSealOfUptoRow.holds Try.pinned (OpenSpec.upto fnExactSealOfSpec)

/-- 'laws.FnExactAreEditions', WHERE WHAT IT READS IS OF BULK AT MOST 1048576: true; the input reads as it did. -/
def fnExactAreEditionsUptoRow : OpenClaim := { program := "ythagofmakdeafaa", sum := "3d2f92dc799284673c2fa5f0d235e108c9b8627fc47fd51bd9a14d683304930e", func := "loop.example/g03005/laws.FnExactAreEditions", spec := "fnExactAreEditions", unfollowed := true, recurses := true, plainKeys := false, apart := false, narrowed := true }
def FnExactAreEditionsUptoSaid : Prop := fnExactAreEditionsUptoRow.holds Try.pinned (OpenSpec.upto fnExactAreEditionsSpec)

/-- 'laws.FnExactTakeEntry', WHERE WHAT IT READS IS OF BULK AT MOST 1048576: true; the input reads as it did. -/
def fnExactTakeEntryUptoRow : OpenClaim := { program := "ythagofmakdeafaa", sum := "3d2f92dc799284673c2fa5f0d235e108c9b8627fc47fd51bd9a14d683304930e", func := "loop.example/g03005/laws.FnExactTakeEntry", spec := "fnExactTakeEntry", inPlace := ["slices.overlaps[loop.example/g03005/impl.Entry]"], plainKeys := false, apart := false, narrowed := true }
def FnExactTakeEntryUptoSaid : Prop := fnExactTakeEntryUptoRow.holds Try.pinned (OpenSpec.upto fnExactTakeEntrySpec)

/-- 'laws.FnExactMergeLogs', WHERE WHAT IT READS IS OF BULK AT MOST 1048576: true; the input reads as it did. -/
def fnExactMergeLogsUptoRow : OpenClaim := { program := "ythagofmakdeafaa", sum := "3d2f92dc799284673c2fa5f0d235e108c9b8627fc47fd51bd9a14d683304930e", func := "loop.example/g03005/laws.FnExactMergeLogs", spec := "fnExactMergeLogs", inPlace := ["slices.overlaps[loop.example/g03005/impl.Entry]"], plainKeys := false, apart := false, narrowed := true }
def FnExactMergeLogsUptoSaid : Prop := fnExactMergeLogsUptoRow.holds Try.pinned (OpenSpec.upto fnExactMergeLogsSpec)

/-- 'laws.FnEditors', WHERE WHAT IT READS IS OF BULK AT MOST 1048576: true; the input reads as it did. -/
def fnEditorsUptoRow : OpenClaim := { program := "ythagofmakdeafaa", sum := "3d2f92dc799284673c2fa5f0d235e108c9b8627fc47fd51bd9a14d683304930e", func := "loop.example/g03005/laws.FnEditors", spec := "fnEditors", inPlace := ["slices.overlaps[loop.example/g03005/impl.Entry]"], unfollowed := true, recurses := true, plainKeys := false, apart := false, narrowed := true }
def FnEditorsUptoSaid : Prop := fnEditorsUptoRow.holds Try.pinned (OpenSpec.upto fnEditorsSpec)

/-- 'laws.FnExactApplyEdit', WHERE WHAT IT READS IS OF BULK AT MOST 1048576: true; the input reads as it did. -/
def fnExactApplyEditUptoRow : OpenClaim := { program := "ythagofmakdeafaa", sum := "3d2f92dc799284673c2fa5f0d235e108c9b8627fc47fd51bd9a14d683304930e", func := "loop.example/g03005/laws.FnExactApplyEdit", spec := "fnExactApplyEdit", inPlace := ["slices.overlaps[loop.example/g03005/impl.Feature]"], unfollowed := true, recurses := true, plainKeys := false, apart := false, narrowed := true }
def FnExactApplyEditUptoSaid : Prop := fnExactApplyEditUptoRow.holds Try.pinned (OpenSpec.upto fnExactApplyEditSpec)

/-- 'laws.FnExactUndoOf', WHERE WHAT IT READS IS OF BULK AT MOST 1048576: true; the input reads as it did. -/
def fnExactUndoOfUptoRow : OpenClaim := { program := "ythagofmakdeafaa", sum := "3d2f92dc799284673c2fa5f0d235e108c9b8627fc47fd51bd9a14d683304930e", func := "loop.example/g03005/laws.FnExactUndoOf", spec := "fnExactUndoOf", inPlace := ["slices.overlaps[loop.example/g03005/impl.Feature]"], unfollowed := true, recurses := true, plainKeys := false, apart := false, narrowed := true }
def FnExactUndoOfUptoSaid : Prop := fnExactUndoOfUptoRow.holds Try.pinned (OpenSpec.upto fnExactUndoOfSpec)

end Rows
end Go.Proofs.Ythagofmakdeafaa
