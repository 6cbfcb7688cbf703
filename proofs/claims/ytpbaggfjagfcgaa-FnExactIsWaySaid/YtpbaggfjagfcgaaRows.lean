/-
  No cell of these rows narrows 'for every input' (looked for: loops, veiled, ifaces, maps, wideKeys, modest, calm, conditions, laid).
  DERIVED. THE GIVEN ROWS OF THIS SEAT. 4 by the template 'for every input the law returns true; each argument reads behind the call as it read before'; 0 by the template 'total and deterministic' (their statements: YtpbaggfjagfcgaaTotals.lean).
  GIVEN WITH THE SEED: the statements are not yours to turn. If you find one false, say at which input.
  Laid BY PROGRAM, IN A SANDBOX (cutbox-rows.mjs): the forced cells as the released guide's own fill.sh prints them over the translation 3b8a7d80d15221b9… (all of the seat's roots in one cut). By AI agents, Wed Nov 11 2026. No macro, syntax, notation, axiom, sorry.
-/
import Derived.Test.YtpbaggfjagfcgaaChecked
import GoSem.Claim
import GoSem.ClaimJoined
import GoSem.ClaimMapViews
import Derived.JoinedTies
import Derived.KernelRfl
namespace Go.Proofs.Ytpbaggfjagfcgaa
/- THE CELL 'sum', in the pinned program and in every row, IS THE sha256 OF THE DUMP (.gsa) THAT YtpbaggfjagfcgaaProg.lean LOADS. Nothing in Lean hashes anything: it is a label: what it is worth is what the hold of that sum in a sandbox is worth. -/
noncomputable def Try.pinned : Pinned := { name := "ytpbaggfjagfcgaa", sum := "3b8a7d80d15221b9364cc4f0b5cb9aba5d678e3aa551f07cf4a17c8f0d926808", checked := Try.checked }
namespace Rows
def none {H : Type} : Left H := { results := [], args := [] }

/-- 'laws.FnExactWayLength': WHATEVER THE INPUT: true; the input reads as it did. -/
def fnExactWayLengthSpec : ChangeSpec := { name := "fnExactWayLength", fn := fun _ => fun
  | [d1, d2] => { results := [.lit (.bool true)], args := [d1, d2] }
  | _ => none }
def fnExactWayLengthRow : OpenClaim := { program := "ytpbaggfjagfcgaa", sum := "3b8a7d80d15221b9364cc4f0b5cb9aba5d678e3aa551f07cf4a17c8f0d926808", func := "loop.example/g03005/laws.FnExactWayLength", spec := "fnExactWayLength", unfollowed := true, recurses := true, apart := false }
def FnExactWayLengthSaid : Prop := fnExactWayLengthRow.holds Try.pinned (OpenSpec.ofChange fnExactWayLengthSpec)

/-- ITS FALSE NEIGHBOUR: 'it returns false'. Refute it at one input. -/
def fnExactWayLengthWrong : ChangeSpec := { name := "fnExactWayLength", fn := fun _ => fun
  | [d1, d2] => { results := [.lit (.bool false)], args := [d1, d2] }
  | _ => none }
def FnExactWayLengthWrongFalsely : Prop := fnExactWayLengthRow.holds Try.pinned (OpenSpec.ofChange fnExactWayLengthWrong)

/-- 'laws.FnExactCountNames': WHATEVER THE INPUT: true; the input reads as it did. -/
def fnExactCountNamesSpec : ChangeSpec := { name := "fnExactCountNames", fn := fun _ => fun
  | [d] => { results := [.lit (.bool true)], args := [d] }
  | _ => none }
def fnExactCountNamesRow : OpenClaim := { program := "ytpbaggfjagfcgaa", sum := "3b8a7d80d15221b9364cc4f0b5cb9aba5d678e3aa551f07cf4a17c8f0d926808", func := "loop.example/g03005/laws.FnExactCountNames", spec := "fnExactCountNames", recurses := true, apart := false }
def FnExactCountNamesSaid : Prop := fnExactCountNamesRow.holds Try.pinned (OpenSpec.ofChange fnExactCountNamesSpec)

/-- ITS FALSE NEIGHBOUR: 'it returns false'. Refute it at one input. -/
def fnExactCountNamesWrong : ChangeSpec := { name := "fnExactCountNames", fn := fun _ => fun
  | [d] => { results := [.lit (.bool false)], args := [d] }
  | _ => none }
def FnExactCountNamesWrongFalsely : Prop := fnExactCountNamesRow.holds Try.pinned (OpenSpec.ofChange fnExactCountNamesWrong)

/-- 'laws.FnExactIsLog': WHATEVER THE INPUT: true; the input reads as it did. -/
def fnExactIsLogSpec : ChangeSpec := { name := "fnExactIsLog", fn := fun _ => fun
  | [d] => { results := [.lit (.bool true)], args := [d] }
  | _ => none }
def fnExactIsLogRow : OpenClaim := { program := "ytpbaggfjagfcgaa", sum := "3b8a7d80d15221b9364cc4f0b5cb9aba5d678e3aa551f07cf4a17c8f0d926808", func := "loop.example/g03005/laws.FnExactIsLog", spec := "fnExactIsLog", apart := false }
def FnExactIsLogSaid : Prop := fnExactIsLogRow.holds Try.pinned (OpenSpec.ofChange fnExactIsLogSpec)

/-- ITS FALSE NEIGHBOUR: 'it returns false'. Refute it at one input. -/
def fnExactIsLogWrong : ChangeSpec := { name := "fnExactIsLog", fn := fun _ => fun
  | [d] => { results := [.lit (.bool false)], args := [d] }
  | _ => none }
def FnExactIsLogWrongFalsely : Prop := fnExactIsLogRow.holds Try.pinned (OpenSpec.ofChange fnExactIsLogWrong)

/-- 'laws.FnExactIsWay': WHATEVER THE INPUT: true; the input reads as it did. -/
def fnExactIsWaySpec : ChangeSpec := { name := "fnExactIsWay", fn := fun _ => fun
  | [d1, d2, d3, d4, d5] => { results := [.lit (.bool true)], args := [d1, d2, d3, d4, d5] }
  | _ => none }
def fnExactIsWayRow : OpenClaim := { program := "ytpbaggfjagfcgaa", sum := "3b8a7d80d15221b9364cc4f0b5cb9aba5d678e3aa551f07cf4a17c8f0d926808", func := "loop.example/g03005/laws.FnExactIsWay", spec := "fnExactIsWay", unfollowed := true, recurses := true, apart := false }
def FnExactIsWaySaid : Prop := fnExactIsWayRow.holds Try.pinned (OpenSpec.ofChange fnExactIsWaySpec)

/-- ITS FALSE NEIGHBOUR: 'it returns false'. Refute it at one input. -/
def fnExactIsWayWrong : ChangeSpec := { name := "fnExactIsWay", fn := fun _ => fun
  | [d1, d2, d3, d4, d5] => { results := [.lit (.bool false)], args := [d1, d2, d3, d4, d5] }
  | _ => none }
def FnExactIsWayWrongFalsely : Prop := fnExactIsWayRow.holds Try.pinned (OpenSpec.ofChange fnExactIsWayWrong)

/- THE SECOND FORM. 'bulk': how many values and letters a reading holds, each counted each time it is reached (what is shared counts as often as it is met; a slice's spare places count too). A statement '..UptoSaid' is the law's where the arguments, and the package variables that the reading takes, are together of bulk at most 1048576: NARROWER than '..Said'. Prove '..Said' where nothing that the law and all that it calls make is longer than what came in: it says more and counts as full. Else prove '..UptoSaid'. A law counts once. -/
mutual
def uptoBulk {H : Type} : DataW H → Nat
  | .lit (.string bytes) => bytes.length + 1
  | .lit _ => 1
  | .nil => 1
  | .ptr d => uptoBulk d + 1
  | .slice elems spare => uptoBulkAll elems + uptoBulkAll spare + 1
  | .agg parts => uptoBulkAll parts + 1
  | .iface _ d => uptoBulk d + 1
  | .map entries => uptoBulkEntries entries + 1
  | .held _ => 1
def uptoBulkAll {H : Type} : List (DataW H) → Nat
  | [] => 0
  | d :: r => uptoBulk d + uptoBulkAll r
def uptoBulkEntries {H : Type} : List (Lit × DataW H) → Nat
  | [] => 0
  | x :: r => uptoBulkEntry x + uptoBulkEntries r
def uptoBulkEntry {H : Type} : Lit × DataW H → Nat
  | (.string bytes, d) => bytes.length + uptoBulk d + 1
  | (_, d) => uptoBulk d + 1
 end
def uptoSmall : (H : Type) → List (DataW H) → Bool := fun _ ds => decide (uptoBulkAll ds ≤ 1048576)
def OpenSpec.upto (s : _root_.Go.ChangeSpec) : _root_.Go.OpenSpec := { _root_.Go.OpenSpec.ofChange s with cond := some uptoSmall }

/-- 'laws.FnExactWayLength', WHERE WHAT IT READS IS OF BULK AT MOST 1048576: true; the input reads as it did. -/
def fnExactWayLengthUptoRow : OpenClaim := { program := "ytpbaggfjagfcgaa", sum := "3b8a7d80d15221b9364cc4f0b5cb9aba5d678e3aa551f07cf4a17c8f0d926808", func := "loop.example/g03005/laws.FnExactWayLength", spec := "fnExactWayLength", unfollowed := true, recurses := true, apart := false, narrowed := true }
def FnExactWayLengthUptoSaid : Prop := fnExactWayLengthUptoRow.holds Try.pinned (OpenSpec.upto fnExactWayLengthSpec)

/-- 'laws.FnExactCountNames', WHERE WHAT IT READS IS OF BULK AT MOST 1048576: true; the input reads as it did. -/
def fnExactCountNamesUptoRow : OpenClaim := { program := "ytpbaggfjagfcgaa", sum := "3b8a7d80d15221b9364cc4f0b5cb9aba5d678e3aa551f07cf4a17c8f0d926808", func := "loop.example/g03005/laws.FnExactCountNames", spec := "fnExactCountNames", recurses := true, apart := false, narrowed := true }
def FnExactCountNamesUptoSaid : Prop := fnExactCountNamesUptoRow.holds Try.pinned (OpenSpec.upto fnExactCountNamesSpec)

/-- 'laws.FnExactIsLog', WHERE WHAT IT READS IS OF BULK AT MOST 1048576: true; the input reads as it did. -/
def fnExactIsLogUptoRow : OpenClaim := { program := "ytpbaggfjagfcgaa", sum := "3b8a7d80d15221b9364cc4f0b5cb9aba5d678e3aa551f07cf4a17c8f0d926808", func := "loop.example/g03005/laws.FnExactIsLog", spec := "fnExactIsLog", apart := false, narrowed := true }
def FnExactIsLogUptoSaid : Prop := fnExactIsLogUptoRow.holds Try.pinned (OpenSpec.upto fnExactIsLogSpec)

/-- 'laws.FnExactIsWay', WHERE WHAT IT READS IS OF BULK AT MOST 1048576: true; the input reads as it did. -/
def fnExactIsWayUptoRow : OpenClaim := { program := "ytpbaggfjagfcgaa", sum := "3b8a7d80d15221b9364cc4f0b5cb9aba5d678e3aa551f07cf4a17c8f0d926808", func := "loop.example/g03005/laws.FnExactIsWay", spec := "fnExactIsWay", unfollowed := true, recurses := true, apart := false, narrowed := true }
def FnExactIsWayUptoSaid : Prop := fnExactIsWayUptoRow.holds Try.pinned (OpenSpec.upto fnExactIsWaySpec)

end Rows
end Go.Proofs.Ytpbaggfjagfcgaa
