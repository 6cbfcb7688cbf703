/-
  No cell of these rows narrows 'for every input' (looked for: loops, veiled, ifaces, maps, wideKeys, modest, calm, conditions, laid).
  DERIVED. THE GIVEN ROWS OF THIS SEAT. 12 by the template 'for every input the law returns true; each argument reads behind the call as it read before'; 0 by the template 'total and deterministic' (their statements: YtoonbcdkbdedkaaTotals.lean).
  GIVEN WITH THE SEED: the statements are not yours to turn. If you find one false, say at which input.
  Laid BY PROGRAM, IN A SANDBOX (cutbox-rows.mjs): the forced cells as the released guide's own fill.sh prints them over the translation 48d05a827c0038d9… (all of the seat's roots in one cut). By AI agents, Wed Nov 11 2026. No macro, syntax, notation, axiom, sorry.
-/
import Derived.Test.YtoonbcdkbdedkaaChecked
import GoSem.Claim
import GoSem.ClaimJoined
import GoSem.ClaimMapViews
import Derived.JoinedTies
import Derived.KernelRfl
namespace Go.Proofs.Ytoonbcdkbdedkaa
/- THE CELL 'sum', in the pinned program and in every row, IS THE sha256 OF THE DUMP (.gsa) THAT YtoonbcdkbdedkaaProg.lean LOADS. Nothing in Lean hashes anything: it is a label: what it is worth is what the hold of that sum in a sandbox is worth. -/
noncomputable def Try.pinned : Pinned := { name := "ytoonbcdkbdedkaa", sum := "48d05a827c0038d9f679fa1002d25cb6c92363c3784945064995f2e981ebba74", checked := Try.checked }
namespace Rows
def none {H : Type} : Left H := { results := [], args := [] }

/-- 'laws.FnExactEditName': WHATEVER THE INPUT: true; the input reads as it did. -/
def fnExactEditNameSpec : ChangeSpec := { name := "fnExactEditName", fn := fun _ => fun
  | [d] => { results := [.lit (.bool true)], args := [d] }
  | _ => none }
def fnExactEditNameRow : OpenClaim := { program := "ytoonbcdkbdedkaa", sum := "48d05a827c0038d9f679fa1002d25cb6c92363c3784945064995f2e981ebba74", func := "loop.example/g03005/laws.FnExactEditName", spec := "fnExactEditName", apart := false }
def FnExactEditNameSaid : Prop := fnExactEditNameRow.holds Try.pinned (OpenSpec.ofChange fnExactEditNameSpec)

/-- ITS FALSE NEIGHBOUR: 'it returns false'. Refute it at one input. -/
def fnExactEditNameWrong : ChangeSpec := { name := "fnExactEditName", fn := fun _ => fun
  | [d] => { results := [.lit (.bool false)], args := [d] }
  | _ => none }
def FnExactEditNameWrongFalsely : Prop := fnExactEditNameRow.holds Try.pinned (OpenSpec.ofChange fnExactEditNameWrong)

/-- 'laws.FnExactWhyName': WHATEVER THE INPUT: true; the input reads as it did. -/
def fnExactWhyNameSpec : ChangeSpec := { name := "fnExactWhyName", fn := fun _ => fun
  | [d] => { results := [.lit (.bool true)], args := [d] }
  | _ => none }
def fnExactWhyNameRow : OpenClaim := { program := "ytoonbcdkbdedkaa", sum := "48d05a827c0038d9f679fa1002d25cb6c92363c3784945064995f2e981ebba74", func := "loop.example/g03005/laws.FnExactWhyName", spec := "fnExactWhyName", apart := false }
def FnExactWhyNameSaid : Prop := fnExactWhyNameRow.holds Try.pinned (OpenSpec.ofChange fnExactWhyNameSpec)

/-- ITS FALSE NEIGHBOUR: 'it returns false'. Refute it at one input. -/
def fnExactWhyNameWrong : ChangeSpec := { name := "fnExactWhyName", fn := fun _ => fun
  | [d] => { results := [.lit (.bool false)], args := [d] }
  | _ => none }
def FnExactWhyNameWrongFalsely : Prop := fnExactWhyNameRow.holds Try.pinned (OpenSpec.ofChange fnExactWhyNameWrong)

/-- 'laws.FnExactParseRef': WHATEVER THE INPUT: true; the input reads as it did. -/
def fnExactParseRefSpec : ChangeSpec := { name := "fnExactParseRef", fn := fun _ => fun
  | [d] => { results := [.lit (.bool true)], args := [d] }
  | _ => none }
def fnExactParseRefRow : OpenClaim := { program := "ytoonbcdkbdedkaa", sum := "48d05a827c0038d9f679fa1002d25cb6c92363c3784945064995f2e981ebba74", func := "loop.example/g03005/laws.FnExactParseRef", spec := "fnExactParseRef", apart := false }
def FnExactParseRefSaid : Prop := fnExactParseRefRow.holds Try.pinned (OpenSpec.ofChange fnExactParseRefSpec)

/-- ITS FALSE NEIGHBOUR: 'it returns false'. Refute it at one input. -/
def fnExactParseRefWrong : ChangeSpec := { name := "fnExactParseRef", fn := fun _ => fun
  | [d] => { results := [.lit (.bool false)], args := [d] }
  | _ => none }
def FnExactParseRefWrongFalsely : Prop := fnExactParseRefRow.holds Try.pinned (OpenSpec.ofChange fnExactParseRefWrong)

/-- 'laws.FnExactCountWhy': WHATEVER THE INPUT: true; the input reads as it did. -/
def fnExactCountWhySpec : ChangeSpec := { name := "fnExactCountWhy", fn := fun _ => fun
  | [d1, d2] => { results := [.lit (.bool true)], args := [d1, d2] }
  | _ => none }
def fnExactCountWhyRow : OpenClaim := { program := "ytoonbcdkbdedkaa", sum := "48d05a827c0038d9f679fa1002d25cb6c92363c3784945064995f2e981ebba74", func := "loop.example/g03005/laws.FnExactCountWhy", spec := "fnExactCountWhy", apart := false }
def FnExactCountWhySaid : Prop := fnExactCountWhyRow.holds Try.pinned (OpenSpec.ofChange fnExactCountWhySpec)

/-- ITS FALSE NEIGHBOUR: 'it returns false'. Refute it at one input. -/
def fnExactCountWhyWrong : ChangeSpec := { name := "fnExactCountWhy", fn := fun _ => fun
  | [d1, d2] => { results := [.lit (.bool false)], args := [d1, d2] }
  | _ => none }
def FnExactCountWhyWrongFalsely : Prop := fnExactCountWhyRow.holds Try.pinned (OpenSpec.ofChange fnExactCountWhyWrong)

/-- 'laws.FnExactIsLadder': WHATEVER THE INPUT: true; the input reads as it did. -/
def fnExactIsLadderSpec : ChangeSpec := { name := "fnExactIsLadder", fn := fun _ => fun
  | [d] => { results := [.lit (.bool true)], args := [d] }
  | _ => none }
def fnExactIsLadderRow : OpenClaim := { program := "ytoonbcdkbdedkaa", sum := "48d05a827c0038d9f679fa1002d25cb6c92363c3784945064995f2e981ebba74", func := "loop.example/g03005/laws.FnExactIsLadder", spec := "fnExactIsLadder", apart := false }
def FnExactIsLadderSaid : Prop := fnExactIsLadderRow.holds Try.pinned (OpenSpec.ofChange fnExactIsLadderSpec)

/-- ITS FALSE NEIGHBOUR: 'it returns false'. Refute it at one input. -/
def fnExactIsLadderWrong : ChangeSpec := { name := "fnExactIsLadder", fn := fun _ => fun
  | [d] => { results := [.lit (.bool false)], args := [d] }
  | _ => none }
def FnExactIsLadderWrongFalsely : Prop := fnExactIsLadderRow.holds Try.pinned (OpenSpec.ofChange fnExactIsLadderWrong)

/-- 'laws.FnExactIsNewer': WHATEVER THE INPUT: true; the input reads as it did. -/
def fnExactIsNewerSpec : ChangeSpec := { name := "fnExactIsNewer", fn := fun _ => fun
  | [d1, d2] => { results := [.lit (.bool true)], args := [d1, d2] }
  | _ => none }
def fnExactIsNewerRow : OpenClaim := { program := "ytoonbcdkbdedkaa", sum := "48d05a827c0038d9f679fa1002d25cb6c92363c3784945064995f2e981ebba74", func := "loop.example/g03005/laws.FnExactIsNewer", spec := "fnExactIsNewer", apart := false }
def FnExactIsNewerSaid : Prop := fnExactIsNewerRow.holds Try.pinned (OpenSpec.ofChange fnExactIsNewerSpec)

/-- ITS FALSE NEIGHBOUR: 'it returns false'. Refute it at one input. -/
def fnExactIsNewerWrong : ChangeSpec := { name := "fnExactIsNewer", fn := fun _ => fun
  | [d1, d2] => { results := [.lit (.bool false)], args := [d1, d2] }
  | _ => none }
def FnExactIsNewerWrongFalsely : Prop := fnExactIsNewerRow.holds Try.pinned (OpenSpec.ofChange fnExactIsNewerWrong)

/-- 'laws.FnExactRefBox': WHATEVER THE INPUT: true; the input reads as it did. -/
def fnExactRefBoxSpec : ChangeSpec := { name := "fnExactRefBox", fn := fun _ => fun
  | [d] => { results := [.lit (.bool true)], args := [d] }
  | _ => none }
def fnExactRefBoxRow : OpenClaim := { program := "ytoonbcdkbdedkaa", sum := "48d05a827c0038d9f679fa1002d25cb6c92363c3784945064995f2e981ebba74", func := "loop.example/g03005/laws.FnExactRefBox", spec := "fnExactRefBox", apart := false }
def FnExactRefBoxSaid : Prop := fnExactRefBoxRow.holds Try.pinned (OpenSpec.ofChange fnExactRefBoxSpec)

/-- ITS FALSE NEIGHBOUR: 'it returns false'. Refute it at one input. -/
def fnExactRefBoxWrong : ChangeSpec := { name := "fnExactRefBox", fn := fun _ => fun
  | [d] => { results := [.lit (.bool false)], args := [d] }
  | _ => none }
def FnExactRefBoxWrongFalsely : Prop := fnExactRefBoxRow.holds Try.pinned (OpenSpec.ofChange fnExactRefBoxWrong)

/-- 'laws.FnExactStartingWith': WHATEVER THE INPUT: true; the input reads as it did. -/
def fnExactStartingWithSpec : ChangeSpec := { name := "fnExactStartingWith", fn := fun _ => fun
  | [d1, d2] => { results := [.lit (.bool true)], args := [d1, d2] }
  | _ => none }
def fnExactStartingWithRow : OpenClaim := { program := "ytoonbcdkbdedkaa", sum := "48d05a827c0038d9f679fa1002d25cb6c92363c3784945064995f2e981ebba74", func := "loop.example/g03005/laws.FnExactStartingWith", spec := "fnExactStartingWith", apart := false }
def FnExactStartingWithSaid : Prop := fnExactStartingWithRow.holds Try.pinned (OpenSpec.ofChange fnExactStartingWithSpec)

/-- ITS FALSE NEIGHBOUR: 'it returns false'. Refute it at one input. -/
def fnExactStartingWithWrong : ChangeSpec := { name := "fnExactStartingWith", fn := fun _ => fun
  | [d1, d2] => { results := [.lit (.bool false)], args := [d1, d2] }
  | _ => none }
def FnExactStartingWithWrongFalsely : Prop := fnExactStartingWithRow.holds Try.pinned (OpenSpec.ofChange fnExactStartingWithWrong)

/-- 'laws.FnExactFindName': WHATEVER THE INPUT: true; the input reads as it did. -/
def fnExactFindNameSpec : ChangeSpec := { name := "fnExactFindName", fn := fun _ => fun
  | [d1, d2] => { results := [.lit (.bool true)], args := [d1, d2] }
  | _ => none }
def fnExactFindNameRow : OpenClaim := { program := "ytoonbcdkbdedkaa", sum := "48d05a827c0038d9f679fa1002d25cb6c92363c3784945064995f2e981ebba74", func := "loop.example/g03005/laws.FnExactFindName", spec := "fnExactFindName", apart := false }
def FnExactFindNameSaid : Prop := fnExactFindNameRow.holds Try.pinned (OpenSpec.ofChange fnExactFindNameSpec)

/-- ITS FALSE NEIGHBOUR: 'it returns false'. Refute it at one input. -/
def fnExactFindNameWrong : ChangeSpec := { name := "fnExactFindName", fn := fun _ => fun
  | [d1, d2] => { results := [.lit (.bool false)], args := [d1, d2] }
  | _ => none }
def FnExactFindNameWrongFalsely : Prop := fnExactFindNameRow.holds Try.pinned (OpenSpec.ofChange fnExactFindNameWrong)

/-- 'laws.FnExactNamesIn': WHATEVER THE INPUT: true; the input reads as it did. -/
def fnExactNamesInSpec : ChangeSpec := { name := "fnExactNamesIn", fn := fun _ => fun
  | [d1, d2] => { results := [.lit (.bool true)], args := [d1, d2] }
  | _ => none }
def fnExactNamesInRow : OpenClaim := { program := "ytoonbcdkbdedkaa", sum := "48d05a827c0038d9f679fa1002d25cb6c92363c3784945064995f2e981ebba74", func := "loop.example/g03005/laws.FnExactNamesIn", spec := "fnExactNamesIn", apart := false }
def FnExactNamesInSaid : Prop := fnExactNamesInRow.holds Try.pinned (OpenSpec.ofChange fnExactNamesInSpec)

/-- ITS FALSE NEIGHBOUR: 'it returns false'. Refute it at one input. -/
def fnExactNamesInWrong : ChangeSpec := { name := "fnExactNamesIn", fn := fun _ => fun
  | [d1, d2] => { results := [.lit (.bool false)], args := [d1, d2] }
  | _ => none }
def FnExactNamesInWrongFalsely : Prop := fnExactNamesInRow.holds Try.pinned (OpenSpec.ofChange fnExactNamesInWrong)

/-- 'laws.FnExactSameEditions': WHATEVER THE INPUT: true; the input reads as it did. -/
def fnExactSameEditionsSpec : ChangeSpec := { name := "fnExactSameEditions", fn := fun _ => fun
  | [d1, d2] => { results := [.lit (.bool true)], args := [d1, d2] }
  | _ => none }
def fnExactSameEditionsRow : OpenClaim := { program := "ytoonbcdkbdedkaa", sum := "48d05a827c0038d9f679fa1002d25cb6c92363c3784945064995f2e981ebba74", func := "loop.example/g03005/laws.FnExactSameEditions", spec := "fnExactSameEditions", apart := false }
def FnExactSameEditionsSaid : Prop := fnExactSameEditionsRow.holds Try.pinned (OpenSpec.ofChange fnExactSameEditionsSpec)

/-- ITS FALSE NEIGHBOUR: 'it returns false'. Refute it at one input. -/
def fnExactSameEditionsWrong : ChangeSpec := { name := "fnExactSameEditions", fn := fun _ => fun
  | [d1, d2] => { results := [.lit (.bool false)], args := [d1, d2] }
  | _ => none }
def FnExactSameEditionsWrongFalsely : Prop := fnExactSameEditionsRow.holds Try.pinned (OpenSpec.ofChange fnExactSameEditionsWrong)

/-- 'laws.FnExactEqualLogs': WHATEVER THE INPUT: true; the input reads as it did. -/
def fnExactEqualLogsSpec : ChangeSpec := { name := "fnExactEqualLogs", fn := fun _ => fun
  | [d1, d2] => { results := [.lit (.bool true)], args := [d1, d2] }
  | _ => none }
def fnExactEqualLogsRow : OpenClaim := { program := "ytoonbcdkbdedkaa", sum := "48d05a827c0038d9f679fa1002d25cb6c92363c3784945064995f2e981ebba74", func := "loop.example/g03005/laws.FnExactEqualLogs", spec := "fnExactEqualLogs", unfollowed := true, recurses := true, apart := false }
def FnExactEqualLogsSaid : Prop := fnExactEqualLogsRow.holds Try.pinned (OpenSpec.ofChange fnExactEqualLogsSpec)

/-- ITS FALSE NEIGHBOUR: 'it returns false'. Refute it at one input. -/
def fnExactEqualLogsWrong : ChangeSpec := { name := "fnExactEqualLogs", fn := fun _ => fun
  | [d1, d2] => { results := [.lit (.bool false)], args := [d1, d2] }
  | _ => none }
def FnExactEqualLogsWrongFalsely : Prop := fnExactEqualLogsRow.holds Try.pinned (OpenSpec.ofChange fnExactEqualLogsWrong)

/- THE SECOND FORM. 'bulk': how many values and letters a reading holds, each counted each time it is reached (what is shared counts as often as it is met; a slice's spare places count too). A statement '..UptoSaid' is the law's where the arguments, and the package variables that the reading takes, are together of bulk at most 1048576: NARROWER than '..Said'. Prove '..Said' where nothing that the law and all that it calls make is longer than what came in: it says more and counts as full. Else prove '..UptoSaid'. A law counts once. -/
mutual
def uptoBulk {H : Type} : DataW H → Nat
  | .lit (.string bytes) => bytes.length + 1
  | .lit _ => 1
  | .nil => 1
  | .ptr d => uptoBulk d + 1
  | .slice elems spare => uptoBulkAll elems + uptoBulkAll spare + 1
  | .agg parts => uptoBulkAll parts + 1
  | .iface _ d => uptoBulk d + 1
  | .map entries => uptoBulkEntries entries + 1
  | .held _ => 1
def uptoBulkAll {H : Type} : List (DataW H) → Nat
  | [] => 0
  | d :: r => uptoBulk d + uptoBulkAll r
def uptoBulkEntries {H : Type} : List (Lit × DataW H) → Nat
  | [] => 0
  | x :: r => uptoBulkEntry x + uptoBulkEntries r
def uptoBulkEntry {H : Type} : Lit × DataW H → Nat
  | (.string bytes, d) => bytes.length + uptoBulk d + 1
  | (_, d) => uptoBulk d + 1
 end
def uptoSmall : (H : Type) → List (DataW H) → Bool := fun _ ds => decide (uptoBulkAll ds ≤ 1048576)
def OpenSpec.upto (s : _root_.Go.ChangeSpec) : _root_.Go.OpenSpec := { _root_.Go.OpenSpec.ofChange s with cond := some uptoSmall }

/-- 'laws.FnExactEditName', WHERE WHAT IT READS IS OF BULK AT MOST 1048576: true; the input reads as it did. -/
def fnExactEditNameUptoRow : OpenClaim := { program := "ytoonbcdkbdedkaa", sum := "48d05a827c0038d9f679fa1002d25cb6c92363c3784945064995f2e981ebba74", func := "loop.example/g03005/laws.FnExactEditName", spec := "fnExactEditName", apart := false, narrowed := true }
def FnExactEditNameUptoSaid : Prop := fnExactEditNameUptoRow.holds Try.pinned (OpenSpec.upto fnExactEditNameSpec)

/-- 'laws.FnExactWhyName', WHERE WHAT IT READS IS OF BULK AT MOST 1048576: true; the input reads as it did. -/
def fnExactWhyNameUptoRow : OpenClaim := { program := "ytoonbcdkbdedkaa", sum := "48d05a827c0038d9f679fa1002d25cb6c92363c3784945064995f2e981ebba74", func := "loop.example/g03005/laws.FnExactWhyName", spec := "fnExactWhyName", apart := false, narrowed := true }
def FnExactWhyNameUptoSaid : Prop := fnExactWhyNameUptoRow.holds Try.pinned (OpenSpec.upto fnExactWhyNameSpec)

/-- 'laws.FnExactParseRef', WHERE WHAT IT READS IS OF BULK AT MOST 1048576: true; the input reads as it did. -/
def fnExactParseRefUptoRow : OpenClaim := { program := "ytoonbcdkbdedkaa", sum := "48d05a827c0038d9f679fa1002d25cb6c92363c3784945064995f2e981ebba74", func := "loop.example/g03005/laws.FnExactParseRef", spec := "fnExactParseRef", apart := false, narrowed := true }
def FnExactParseRefUptoSaid : Prop := fnExactParseRefUptoRow.holds Try.pinned (OpenSpec.upto fnExactParseRefSpec)

/-- 'laws.FnExactCountWhy', WHERE WHAT IT READS IS OF BULK AT MOST 1048576: true; the input reads as it did. -/
def fnExactCountWhyUptoRow : OpenClaim := { program := "ytoonbcdkbdedkaa", sum := "48d05a827c0038d9f679fa1002d25cb6c92363c3784945064995f2e981ebba74", func := "loop.example/g03005/laws.FnExactCountWhy", spec := "fnExactCountWhy", apart := false, narrowed := true }
def FnExactCountWhyUptoSaid : Prop := fnExactCountWhyUptoRow.holds Try.pinned (OpenSpec.upto fnExactCountWhySpec)

/-- 'laws.FnExactIsLadder', WHERE WHAT IT READS IS OF BULK AT MOST 1048576: true; the input reads as it did. -/
def fnExactIsLadderUptoRow : OpenClaim := { program := "ytoonbcdkbdedkaa", sum := "48d05a827c0038d9f679fa1002d25cb6c92363c3784945064995f2e981ebba74", func := "loop.example/g03005/laws.FnExactIsLadder", spec := "fnExactIsLadder", apart := false, narrowed := true }
def FnExactIsLadderUptoSaid : Prop := fnExactIsLadderUptoRow.holds Try.pinned (OpenSpec.upto fnExactIsLadderSpec)

/-- 'laws.FnExactIsNewer', WHERE WHAT IT READS IS OF BULK AT MOST 1048576: true; the input reads as it did. -/
def fnExactIsNewerUptoRow : OpenClaim := { program := "ytoonbcdkbdedkaa", sum := "48d05a827c0038d9f679fa1002d25cb6c92363c3784945064995f2e981ebba74", func := "loop.example/g03005/laws.FnExactIsNewer", spec := "fnExactIsNewer", apart := false, narrowed := true }
def FnExactIsNewerUptoSaid : Prop := fnExactIsNewerUptoRow.holds Try.pinned (OpenSpec.upto fnExactIsNewerSpec)

/-- 'laws.FnExactRefBox', WHERE WHAT IT READS IS OF BULK AT MOST 1048576: true; the input reads as it did. -/
def fnExactRefBoxUptoRow : OpenClaim := { program := "ytoonbcdkbdedkaa", sum := "48d05a827c0038d9f679fa1002d25cb6c92363c3784945064995f2e981ebba74", func := "loop.example/g03005/laws.FnExactRefBox", spec := "fnExactRefBox", apart := false, narrowed := true }
def FnExactRefBoxUptoSaid : Prop := fnExactRefBoxUptoRow.holds Try.pinned (OpenSpec.upto fnExactRefBoxSpec)

/-- 'laws.FnExactStartingWith', WHERE WHAT IT READS IS OF BULK AT MOST 1048576: true; the input reads as it did. -/
def fnExactStartingWithUptoRow : OpenClaim := { program := "ytoonbcdkbdedkaa", sum := "48d05a827c0038d9f679fa1002d25cb6c92363c3784945064995f2e981ebba74", func := "loop.example/g03005/laws.FnExactStartingWith", spec := "fnExactStartingWith", apart := false, narrowed := true }
def FnExactStartingWithUptoSaid : Prop := fnExactStartingWithUptoRow.holds Try.pinned (OpenSpec.upto fnExactStartingWithSpec)

/-- 'laws.FnExactFindName', WHERE WHAT IT READS IS OF BULK AT MOST 1048576: true; the input reads as it did. -/
def fnExactFindNameUptoRow : OpenClaim := { program := "ytoonbcdkbdedkaa", sum := "48d05a827c0038d9f679fa1002d25cb6c92363c3784945064995f2e981ebba74", func := "loop.example/g03005/laws.FnExactFindName", spec := "fnExactFindName", apart := false, narrowed := true }
def FnExactFindNameUptoSaid : Prop := fnExactFindNameUptoRow.holds Try.pinned (OpenSpec.upto fnExactFindNameSpec)

/-- 'laws.FnExactNamesIn', WHERE WHAT IT READS IS OF BULK AT MOST 1048576: true; the input reads as it did. -/
def fnExactNamesInUptoRow : OpenClaim := { program := "ytoonbcdkbdedkaa", sum := "48d05a827c0038d9f679fa1002d25cb6c92363c3784945064995f2e981ebba74", func := "loop.example/g03005/laws.FnExactNamesIn", spec := "fnExactNamesIn", apart := false, narrowed := true }
def FnExactNamesInUptoSaid : Prop := fnExactNamesInUptoRow.holds Try.pinned (OpenSpec.upto fnExactNamesInSpec)

/-- 'laws.FnExactSameEditions', WHERE WHAT IT READS IS OF BULK AT MOST 1048576: true; the input reads as it did. -/
def fnExactSameEditionsUptoRow : OpenClaim := { program := "ytoonbcdkbdedkaa", sum := "48d05a827c0038d9f679fa1002d25cb6c92363c3784945064995f2e981ebba74", func := "loop.example/g03005/laws.FnExactSameEditions", spec := "fnExactSameEditions", apart := false, narrowed := true }
def FnExactSameEditionsUptoSaid : Prop := fnExactSameEditionsUptoRow.holds Try.pinned (OpenSpec.upto fnExactSameEditionsSpec)

/-- 'laws.FnExactEqualLogs', WHERE WHAT IT READS IS OF BULK AT MOST 1048576: true; the input reads as it did. -/
def fnExactEqualLogsUptoRow : OpenClaim := { program := "ytoonbcdkbdedkaa", sum := "48d05a827c0038d9f679fa1002d25cb6c92363c3784945064995f2e981ebba74", func := "loop.example/g03005/laws.FnExactEqualLogs", spec := "fnExactEqualLogs", unfollowed := true, recurses := true, apart := false, narrowed := true }
def FnExactEqualLogsUptoSaid : Prop := fnExactEqualLogsUptoRow.holds Try.pinned (OpenSpec.upto fnExactEqualLogsSpec)

end Rows
end Go.Proofs.Ytoonbcdkbdedkaa
