/-
  DERIVED. GIVEN WITH THE SEED: THE CARDS: each row of YtgfbdcjamalhhaaGreatDoorRows.lean that lists a variable, with what it lists TIED to the program's text (the seventh form; the later family's looks); each row that meets fmt, with fmt's text TOLD by the authors' own Lean function (tested against real Go, not proved from fmt's source: count such statements apart). THE CARD IS WHAT COUNTS. Prove the row's statement (the work); the ties are given (YtgfbdcjamalhhaaGreatDoorTie.lean); close each card by the builder's one call (the guide's Derived/Test/ToyasCard.lean, 'card_holds'). Laid BY PROGRAM, IN A SANDBOX (cutbox-door.mjs). By AI agents, Wed Nov 11 2026. No macro, syntax, notation, axiom, sorry.
-/
import Derived.Test.YtgfbdcjamalhhaaGreatDoorRows
import GoSem.ClaimSeven
namespace Go.Proofs.YtgfbdcjamalhhaaGreatDoor
namespace Rows

/-- THE TIED CARD OF 'consistorylaw11.LogsFull'. -/
def logsFullCard : Claim7 := { stood := { row := logsFullRow, standIns := [], harness := (true, "1c27df00ccfdc64245f83bfcfb4d367313ccff2b4288f56e4f9a5f752793ef51"), looks := true }, kinds := [], alts := [], laidByText := true, laidKinds := [.data, .data, .data, .sentinel, .sentinel], laidTests := true, laidLooks := .later }
def LogsFullCardSaid : Prop := Claim7.holds Tryz.pinned (.plain (OpenSpec.ofChange logsFullSpec)) logsFullCard

/-- THE TIED CARD OF 'consistorylaw11.LogsNext'. -/
def logsNextCard : Claim7 := { stood := { row := logsNextRow, standIns := [], harness := (true, "1c27df00ccfdc64245f83bfcfb4d367313ccff2b4288f56e4f9a5f752793ef51"), looks := true }, kinds := [], alts := [], laidByText := true, laidKinds := [.data, .data, .data, .sentinel, .sentinel], laidTests := true, laidLooks := .later }
def LogsNextCardSaid : Prop := Claim7.holds Tryz.pinned (.plain (OpenSpec.ofChange logsNextSpec)) logsNextCard

/-- THE TIED CARD OF 'consistorylaw11.LogsNil'. -/
def logsNilCard : Claim7 := { stood := { row := logsNilRow, standIns := [], harness := (true, "1c27df00ccfdc64245f83bfcfb4d367313ccff2b4288f56e4f9a5f752793ef51"), looks := true }, kinds := [], alts := [], laidByText := true, laidKinds := [.data, .data, .data, .sentinel, .sentinel], laidTests := true, laidLooks := .later }
def LogsNilCardSaid : Prop := Claim7.holds Tryz.pinned (.plain (OpenSpec.ofChange logsNilSpec)) logsNilCard

/-- THE TIED CARD OF 'consistorylaw21.StoreNil'. -/
def storeNilCard : Claim7 := { stood := { row := storeNilRow, standIns := [], harness := (true, "1c27df00ccfdc64245f83bfcfb4d367313ccff2b4288f56e4f9a5f752793ef51"), looks := true }, kinds := [], alts := [], laidByText := true, laidKinds := [.data, .data, .data, .sentinel, .sentinel], laidTests := true, laidLooks := .later }
def StoreNilCardSaid : Prop := Claim7.holds Tryz.pinned (.plain (OpenSpec.ofChange storeNilSpec)) storeNilCard

/-- THE SECOND FORM's CARD OF 'consistorylaw11.LogsFull'. -/
def logsFullUptoCard : Claim7 := { stood := { row := logsFullUptoRow, standIns := [], harness := (true, "1c27df00ccfdc64245f83bfcfb4d367313ccff2b4288f56e4f9a5f752793ef51"), looks := true }, kinds := [], alts := [], laidByText := true, laidKinds := [.data, .data, .data, .sentinel, .sentinel], laidTests := true, laidLooks := .later }
def LogsFullUptoCardSaid : Prop := Claim7.holds Tryz.pinned (.plain (OpenSpec.upto logsFullSpec)) logsFullUptoCard

/-- THE SECOND FORM's CARD OF 'consistorylaw11.LogsNext'. -/
def logsNextUptoCard : Claim7 := { stood := { row := logsNextUptoRow, standIns := [], harness := (true, "1c27df00ccfdc64245f83bfcfb4d367313ccff2b4288f56e4f9a5f752793ef51"), looks := true }, kinds := [], alts := [], laidByText := true, laidKinds := [.data, .data, .data, .sentinel, .sentinel], laidTests := true, laidLooks := .later }
def LogsNextUptoCardSaid : Prop := Claim7.holds Tryz.pinned (.plain (OpenSpec.upto logsNextSpec)) logsNextUptoCard

/-- THE SECOND FORM's CARD OF 'consistorylaw11.LogsNil'. -/
def logsNilUptoCard : Claim7 := { stood := { row := logsNilUptoRow, standIns := [], harness := (true, "1c27df00ccfdc64245f83bfcfb4d367313ccff2b4288f56e4f9a5f752793ef51"), looks := true }, kinds := [], alts := [], laidByText := true, laidKinds := [.data, .data, .data, .sentinel, .sentinel], laidTests := true, laidLooks := .later }
def LogsNilUptoCardSaid : Prop := Claim7.holds Tryz.pinned (.plain (OpenSpec.upto logsNilSpec)) logsNilUptoCard

/-- THE SECOND FORM's CARD OF 'consistorylaw21.StoreNil'. -/
def storeNilUptoCard : Claim7 := { stood := { row := storeNilUptoRow, standIns := [], harness := (true, "1c27df00ccfdc64245f83bfcfb4d367313ccff2b4288f56e4f9a5f752793ef51"), looks := true }, kinds := [], alts := [], laidByText := true, laidKinds := [.data, .data, .data, .sentinel, .sentinel], laidTests := true, laidLooks := .later }
def StoreNilUptoCardSaid : Prop := Claim7.holds Tryz.pinned (.plain (OpenSpec.upto storeNilSpec)) storeNilUptoCard
end Rows
end Go.Proofs.YtgfbdcjamalhhaaGreatDoor
