/-
  DERIVED. GIVEN WITH THE SEED: THE CARDS: each row of YtlbflbdoncbonaaGreatDoorRows.lean that lists a variable, with what it lists TIED to the program's text (the seventh form; the later family's looks); each row that meets fmt, with fmt's text TOLD by the authors' own Lean function (tested against real Go, not proved from fmt's source: count such statements apart). THE CARD IS WHAT COUNTS. Prove the row's statement (the work); the ties are given (YtlbflbdoncbonaaGreatDoorTie.lean); close each card by the builder's one call (the guide's Derived/Test/ToyasCard.lean, 'card_holds'). Laid BY PROGRAM, IN A SANDBOX (cutbox-door.mjs). By AI agents, Wed Nov 11 2026. No macro, syntax, notation, axiom, sorry.
-/
import Derived.Test.YtlbflbdoncbonaaGreatDoorRows
import GoSem.ClaimSeven
namespace Go.Proofs.YtlbflbdoncbonaaGreatDoor
namespace Rows

/-- THE TIED CARD OF 'laws.FnGazettes'. -/
def fnGazettesCard : Claim7 := { stood := { row := fnGazettesRow, standIns := [], harness := (true, "1bf3ac13810919e9c317c4b8210d3d6b4c2ea23facb1b165c16769567ae6a926"), looks := false }, kinds := [], alts := [], laidByText := true, laidKinds := [.data, .data, .data], laidTests := true, laidLooks := .later }
def FnGazettesCardSaid : Prop := Claim7.holds Tryz.pinned (.plain (OpenSpec.ofChange fnGazettesSpec)) fnGazettesCard

/-- THE SECOND FORM's CARD OF 'laws.FnGazettes'. -/
def fnGazettesUptoCard : Claim7 := { stood := { row := fnGazettesUptoRow, standIns := [], harness := (true, "1bf3ac13810919e9c317c4b8210d3d6b4c2ea23facb1b165c16769567ae6a926"), looks := false }, kinds := [], alts := [], laidByText := true, laidKinds := [.data, .data, .data], laidTests := true, laidLooks := .later }
def FnGazettesUptoCardSaid : Prop := Claim7.holds Tryz.pinned (.plain (OpenSpec.upto fnGazettesSpec)) fnGazettesUptoCard
end Rows
end Go.Proofs.YtlbflbdoncbonaaGreatDoor
