/-
  No cell of these rows narrows 'for every input' (looked for: loops, veiled, ifaces, maps, wideKeys, modest, calm, conditions, laid).
  DERIVED. THE GIVEN ROWS OF THIS SEAT. 3 by the template 'for every input the law returns true; each argument reads behind the call as it read before'; 0 by the template 'total and deterministic' (their statements: YtmkhlnmkdgoihaaGreatTotals.lean).
  GIVEN WITH THE SEED: the statements are not yours to turn. If you find one false, say at which input.
  Laid BY PROGRAM, IN A SANDBOX (cutbox-rows.mjs): the forced cells as the released guide's own fill.sh prints them over the translation 3b4de96a06e794d6… (all of the seat's roots in one cut). By AI agents, Wed Nov 11 2026. No macro, syntax, notation, axiom, sorry.
-/
import Derived.Test.YtmkhlnmkdgoihaaGreatChecked
import GoSem.Claim
import GoSem.ClaimJoined
import GoSem.ClaimMapViews
import Derived.JoinedTies
import Derived.KernelRfl
namespace Go.Proofs.YtmkhlnmkdgoihaaGreat
/- THE CELL 'sum', in the pinned program and in every row, IS THE sha256 OF THE DUMP (.gsa) THAT YtmkhlnmkdgoihaaGreatProg.lean LOADS. Nothing in Lean hashes anything: it is a label: what it is worth is what the hold of that sum in a sandbox is worth. -/
noncomputable def Tryz.pinned : Pinned := { name := "ytmkhlnmkdgoihaagreat", sum := "3b4de96a06e794d61d707f0a3f424574397f9ba3c51243d98c4f815bc3e80cd8", checked := Tryz.checked }
namespace Rows
def none {H : Type} : Left H := { results := [], args := [] }

/-- 'laws.FnExactEditTiles': WHATEVER THE INPUT: true; the input reads as it did. -/
def fnExactEditTilesSpec : ChangeSpec := { name := "fnExactEditTiles", fn := fun _ => fun
  | [d1, d2] => { results := [.lit (.bool true)], args := [d1, d2] }
  | _ => none }
def fnExactEditTilesRow : OpenClaim := { program := "ytmkhlnmkdgoihaagreat", sum := "3b4de96a06e794d61d707f0a3f424574397f9ba3c51243d98c4f815bc3e80cd8", func := "loop.example/g03005/laws.FnExactEditTiles", spec := "fnExactEditTiles", inPlace := ["slices.overlaps[loop.example/g03005/impl.Feature]"], unfollowed := true, recurses := true, plainKeys := false, apart := false }
def FnExactEditTilesSaid : Prop := fnExactEditTilesRow.holds Tryz.pinned (OpenSpec.ofChange fnExactEditTilesSpec)

/-- ITS FALSE NEIGHBOUR: 'it returns false'. Refute it at one input. -/
def fnExactEditTilesWrong : ChangeSpec := { name := "fnExactEditTiles", fn := fun _ => fun
  | [d1, d2] => { results := [.lit (.bool false)], args := [d1, d2] }
  | _ => none }
def FnExactEditTilesWrongFalsely : Prop := fnExactEditTilesRow.holds Tryz.pinned (OpenSpec.ofChange fnExactEditTilesWrong)

/-- 'laws.FnEdits': WHATEVER THE INPUT: true; the input reads as it did. -/
def fnEditsSpec : ChangeSpec := { name := "fnEdits", fn := fun _ => fun
  | [d] => { results := [.lit (.bool true)], args := [d] }
  | _ => none }
def fnEditsRow : OpenClaim := { program := "ytmkhlnmkdgoihaagreat", sum := "3b4de96a06e794d61d707f0a3f424574397f9ba3c51243d98c4f815bc3e80cd8", func := "loop.example/g03005/laws.FnEdits", spec := "fnEdits", inPlace := ["slices.overlaps[loop.example/g03005/impl.Feature]"], unfollowed := true, recurses := true, plainKeys := false, apart := false }
def FnEditsSaid : Prop := fnEditsRow.holds Tryz.pinned (OpenSpec.ofChange fnEditsSpec)

/-- ITS FALSE NEIGHBOUR: 'it returns false'. Refute it at one input. -/
def fnEditsWrong : ChangeSpec := { name := "fnEdits", fn := fun _ => fun
  | [d] => { results := [.lit (.bool false)], args := [d] }
  | _ => none }
def FnEditsWrongFalsely : Prop := fnEditsRow.holds Tryz.pinned (OpenSpec.ofChange fnEditsWrong)

/-- 'laws.FnRoads': WHATEVER THE INPUT: true; the input reads as it did. -/
def fnRoadsSpec : ChangeSpec := { name := "fnRoads", fn := fun _ => fun
  | [d] => { results := [.lit (.bool true)], args := [d] }
  | _ => none }
def fnRoadsRow : OpenClaim := { program := "ytmkhlnmkdgoihaagreat", sum := "3b4de96a06e794d61d707f0a3f424574397f9ba3c51243d98c4f815bc3e80cd8", func := "loop.example/g03005/laws.FnRoads", spec := "fnRoads", unfollowed := true, recurses := true, plainKeys := false, apart := false }
def FnRoadsSaid : Prop := fnRoadsRow.holds Tryz.pinned (OpenSpec.ofChange fnRoadsSpec)

/-- ITS FALSE NEIGHBOUR: 'it returns false'. Refute it at one input. -/
def fnRoadsWrong : ChangeSpec := { name := "fnRoads", fn := fun _ => fun
  | [d] => { results := [.lit (.bool false)], args := [d] }
  | _ => none }
def FnRoadsWrongFalsely : Prop := fnRoadsRow.holds Tryz.pinned (OpenSpec.ofChange fnRoadsWrong)

/- THE SECOND FORM. 'bulk': how many values and letters a reading holds, each counted each time it is reached (what is shared counts as often as it is met; a slice's spare places count too). A statement '..UptoSaid' is the law's where the arguments, and the package variables that the reading takes, are together of bulk at most 1048576: NARROWER than '..Said'. Prove '..Said' where nothing that the law and all that it calls make is longer than what came in: it says more and counts as full. Else prove '..UptoSaid'. A law counts once. -/
mutual
def uptoBulk {H : Type} : DataW H → Nat
  | .lit (.string bytes) => bytes.length + 1
  | .lit _ => 1
  | .nil => 1
  | .ptr d => uptoBulk d + 1
  | .slice elems spare => uptoBulkAll elems + uptoBulkAll spare + 1
  | .agg parts => uptoBulkAll parts + 1
  | .iface _ d => uptoBulk d + 1
  | .map entries => uptoBulkEntries entries + 1
  | .held _ => 1
def uptoBulkAll {H : Type} : List (DataW H) → Nat
  | [] => 0
  | d :: r => uptoBulk d + uptoBulkAll r
def uptoBulkEntries {H : Type} : List (Lit × DataW H) → Nat
  | [] => 0
  | x :: r => uptoBulkEntry x + uptoBulkEntries r
def uptoBulkEntry {H : Type} : Lit × DataW H → Nat
  | (.string bytes, d) => bytes.length + uptoBulk d + 1
  | (_, d) => uptoBulk d + 1
 end
def uptoSmall : (H : Type) → List (DataW H) → Bool := fun _ ds => decide (uptoBulkAll ds ≤ 1048576)
def OpenSpec.upto (s : _root_.Go.ChangeSpec) : _root_.Go.OpenSpec := { _root_.Go.OpenSpec.ofChange s with cond := some uptoSmall }

/-- 'laws.FnExactEditTiles', WHERE WHAT IT READS IS OF BULK AT MOST 1048576: true; the input reads as it did. -/
def fnExactEditTilesUptoRow : OpenClaim := { program := "ytmkhlnmkdgoihaagreat", sum := "3b4de96a06e794d61d707f0a3f424574397f9ba3c51243d98c4f815bc3e80cd8", func := "loop.example/g03005/laws.FnExactEditTiles", spec := "fnExactEditTiles", inPlace := ["slices.overlaps[loop.example/g03005/impl.Feature]"], unfollowed := true, recurses := true, plainKeys := false, apart := false, narrowed := true }
def FnExactEditTilesUptoSaid : Prop := fnExactEditTilesUptoRow.holds Tryz.pinned (OpenSpec.upto fnExactEditTilesSpec)

/-- 'laws.FnEdits', WHERE WHAT IT READS IS OF BULK AT MOST 1048576: true; the input reads as it did. -/
def fnEditsUptoRow : OpenClaim := { program := "ytmkhlnmkdgoihaagreat", sum := "3b4de96a06e794d61d707f0a3f424574397f9ba3c51243d98c4f815bc3e80cd8", func := "loop.example/g03005/laws.FnEdits", spec := "fnEdits", inPlace := ["slices.overlaps[loop.example/g03005/impl.Feature]"], unfollowed := true, recurses := true, plainKeys := false, apart := false, narrowed := true }
def FnEditsUptoSaid : Prop := fnEditsUptoRow.holds Tryz.pinned (OpenSpec.upto fnEditsSpec)

/-- 'laws.FnRoads', WHERE WHAT IT READS IS OF BULK AT MOST 1048576: true; the input reads as it did. -/
def fnRoadsUptoRow : OpenClaim := { program := "ytmkhlnmkdgoihaagreat", sum := "3b4de96a06e794d61d707f0a3f424574397f9ba3c51243d98c4f815bc3e80cd8", func := "loop.example/g03005/laws.FnRoads", spec := "fnRoads", unfollowed := true, recurses := true, plainKeys := false, apart := false, narrowed := true }
def FnRoadsUptoSaid : Prop := fnRoadsUptoRow.holds Tryz.pinned (OpenSpec.upto fnRoadsSpec)

end Rows
end Go.Proofs.YtmkhlnmkdgoihaaGreat
