/-
  DERIVED. GIVEN WITH THE SEED: THE CARDS: each row of YtpbkimkjofngmaaDoorRows.lean that lists a variable, with what it lists TIED to the program's text (the seventh form; the later family's looks); each row that meets fmt, with fmt's text TOLD by the authors' own Lean function (tested against real Go, not proved from fmt's source: count such statements apart). THE CARD IS WHAT COUNTS. Prove the row's statement (the work); the ties are given (YtpbkimkjofngmaaDoorTie.lean); close each card by the builder's one call (the guide's Derived/Test/ToyasCard.lean, 'card_holds'). Laid BY PROGRAM, IN A SANDBOX (cutbox-door.mjs). By AI agents, Wed Nov 11 2026. No macro, syntax, notation, axiom, sorry.
-/
import Derived.Test.YtpbkimkjofngmaaDoorRows
import GoSem.ClaimSeven
namespace Go.Proofs.YtpbkimkjofngmaaDoor
namespace Rows

/-- THE TIED CARD OF 'laws.FnBars'. -/
def fnBarsCard : Claim7 := { stood := { row := fnBarsRow, standIns := [], harness := (true, "9d361f6b9b45c6ebfb4dd4376eded7526b36e101306c0de6e0e9dd8dbab7c48e"), looks := false }, kinds := [], alts := [], laidByText := true, laidKinds := [.data, .data, .data], laidTests := true, laidLooks := .later }
def FnBarsCardSaid : Prop := Claim7.holds Tryd.pinned (.plain (OpenSpec.ofChange fnBarsSpec)) fnBarsCard

/-- THE TIED CARD OF 'laws.FnExactRefsIn'. -/
def fnExactRefsInCard : Claim7 := { stood := { row := fnExactRefsInRow, standIns := [], harness := (true, "9d361f6b9b45c6ebfb4dd4376eded7526b36e101306c0de6e0e9dd8dbab7c48e"), looks := false }, kinds := [], alts := [], laidByText := true, laidKinds := [.data, .data, .data], laidTests := true, laidLooks := .later }
def FnExactRefsInCardSaid : Prop := Claim7.holds Tryd.pinned (.plain (OpenSpec.ofChange fnExactRefsInSpec)) fnExactRefsInCard

/-- THE SECOND FORM's CARD OF 'laws.FnBars'. -/
def fnBarsUptoCard : Claim7 := { stood := { row := fnBarsUptoRow, standIns := [], harness := (true, "9d361f6b9b45c6ebfb4dd4376eded7526b36e101306c0de6e0e9dd8dbab7c48e"), looks := false }, kinds := [], alts := [], laidByText := true, laidKinds := [.data, .data, .data], laidTests := true, laidLooks := .later }
def FnBarsUptoCardSaid : Prop := Claim7.holds Tryd.pinned (.plain (OpenSpec.upto fnBarsSpec)) fnBarsUptoCard

/-- THE SECOND FORM's CARD OF 'laws.FnExactRefsIn'. -/
def fnExactRefsInUptoCard : Claim7 := { stood := { row := fnExactRefsInUptoRow, standIns := [], harness := (true, "9d361f6b9b45c6ebfb4dd4376eded7526b36e101306c0de6e0e9dd8dbab7c48e"), looks := false }, kinds := [], alts := [], laidByText := true, laidKinds := [.data, .data, .data], laidTests := true, laidLooks := .later }
def FnExactRefsInUptoCardSaid : Prop := Claim7.holds Tryd.pinned (.plain (OpenSpec.upto fnExactRefsInSpec)) fnExactRefsInUptoCard
end Rows
end Go.Proofs.YtpbkimkjofngmaaDoor
