/-
  DERIVED. GIVEN WITH THE SEED: THE CARDS: each row of YtpbkimkjofngmaaGreatDoorRows.lean that lists a variable, with what it lists TIED to the program's text (the seventh form; the later family's looks); each row that meets fmt, with fmt's text TOLD by the authors' own Lean function (tested against real Go, not proved from fmt's source: count such statements apart). THE CARD IS WHAT COUNTS. Prove the row's statement (the work); the ties are given (YtpbkimkjofngmaaGreatDoorTie.lean); close each card by the builder's one call (the guide's Derived/Test/ToyasCard.lean, 'card_holds'). Laid BY PROGRAM, IN A SANDBOX (cutbox-door.mjs). By AI agents, Wed Nov 11 2026. No macro, syntax, notation, axiom, sorry.
-/
import Derived.Test.YtpbkimkjofngmaaGreatDoorRows
import GoSem.ClaimSeven
namespace Go.Proofs.YtpbkimkjofngmaaGreatDoor
namespace Rows

/-- THE TIED CARD OF 'laws.FnExactListNames'. -/
def fnExactListNamesCard : Claim7 := { stood := { row := fnExactListNamesRow, standIns := [], harness := (true, "c0759fc67c2a2ee96dc10730d17f1ae0544baa2f7d0946dd2e2c3c2756b5de8e"), looks := false }, kinds := [], alts := [], laidByText := true, laidKinds := [.data, .data, .data], laidTests := true, laidLooks := .later }
def FnExactListNamesCardSaid : Prop := Claim7.holds Tryz.pinned (.plain (OpenSpec.ofChange fnExactListNamesSpec)) fnExactListNamesCard

/-- THE TIED CARD OF 'laws.FnGazettes'. -/
def fnGazettesCard : Claim7 := { stood := { row := fnGazettesRow, standIns := [], harness := (true, "c0759fc67c2a2ee96dc10730d17f1ae0544baa2f7d0946dd2e2c3c2756b5de8e"), looks := false }, kinds := [], alts := [], laidByText := true, laidKinds := [.data, .data, .data], laidTests := true, laidLooks := .later }
def FnGazettesCardSaid : Prop := Claim7.holds Tryz.pinned (.plain (OpenSpec.ofChange fnGazettesSpec)) fnGazettesCard

/-- THE TIED CARD OF 'laws.FnRefs'. -/
def fnRefsCard : Claim7 := { stood := { row := fnRefsRow, standIns := [], harness := (true, "c0759fc67c2a2ee96dc10730d17f1ae0544baa2f7d0946dd2e2c3c2756b5de8e"), looks := false }, kinds := [], alts := [], laidByText := true, laidKinds := [.data, .data, .data], laidTests := true, laidLooks := .later }
def FnRefsCardSaid : Prop := Claim7.holds Tryz.pinned (.plain (OpenSpec.ofChange fnRefsSpec)) fnRefsCard

/-- THE SECOND FORM's CARD OF 'laws.FnExactListNames'. -/
def fnExactListNamesUptoCard : Claim7 := { stood := { row := fnExactListNamesUptoRow, standIns := [], harness := (true, "c0759fc67c2a2ee96dc10730d17f1ae0544baa2f7d0946dd2e2c3c2756b5de8e"), looks := false }, kinds := [], alts := [], laidByText := true, laidKinds := [.data, .data, .data], laidTests := true, laidLooks := .later }
def FnExactListNamesUptoCardSaid : Prop := Claim7.holds Tryz.pinned (.plain (OpenSpec.upto fnExactListNamesSpec)) fnExactListNamesUptoCard

/-- THE SECOND FORM's CARD OF 'laws.FnGazettes'. -/
def fnGazettesUptoCard : Claim7 := { stood := { row := fnGazettesUptoRow, standIns := [], harness := (true, "c0759fc67c2a2ee96dc10730d17f1ae0544baa2f7d0946dd2e2c3c2756b5de8e"), looks := false }, kinds := [], alts := [], laidByText := true, laidKinds := [.data, .data, .data], laidTests := true, laidLooks := .later }
def FnGazettesUptoCardSaid : Prop := Claim7.holds Tryz.pinned (.plain (OpenSpec.upto fnGazettesSpec)) fnGazettesUptoCard

/-- THE SECOND FORM's CARD OF 'laws.FnRefs'. -/
def fnRefsUptoCard : Claim7 := { stood := { row := fnRefsUptoRow, standIns := [], harness := (true, "c0759fc67c2a2ee96dc10730d17f1ae0544baa2f7d0946dd2e2c3c2756b5de8e"), looks := false }, kinds := [], alts := [], laidByText := true, laidKinds := [.data, .data, .data], laidTests := true, laidLooks := .later }
def FnRefsUptoCardSaid : Prop := Claim7.holds Tryz.pinned (.plain (OpenSpec.upto fnRefsSpec)) fnRefsUptoCard
end Rows
end Go.Proofs.YtpbkimkjofngmaaGreatDoor
