/-
  DERIVED. GIVEN WITH THE SEED: THE CARDS: each row of YtgeknnclmhfjlaaGreatDoorRows.lean that lists a variable, with what it lists TIED to the program's text (the seventh form; the later family's looks); each row that meets fmt, with fmt's text TOLD by the authors' own Lean function (tested against real Go, not proved from fmt's source: count such statements apart). THE CARD IS WHAT COUNTS. Prove the row's statement (the work); the ties are given (YtgeknnclmhfjlaaGreatDoorTie.lean); close each card by the builder's one call (the guide's Derived/Test/ToyasCard.lean, 'card_holds'). Laid BY PROGRAM, IN A SANDBOX (cutbox-door.mjs). By AI agents, Wed Nov 11 2026. No macro, syntax, notation, axiom, sorry.
-/
import Derived.Test.YtgeknnclmhfjlaaGreatDoorRows
import GoSem.ClaimSeven
namespace Go.Proofs.YtgeknnclmhfjlaaGreatDoor
namespace Rows

/-- THE TIED CARD OF 'consistorylaw21.StoreVotes'. -/
def storeVotesCard : Claim7 := { stood := { row := storeVotesRow, standIns := [], harness := (true, "65626a78d83b67edf9ad81bdb8b8b089fe3c58bcad02ab4c3963ea741b973ec2"), looks := true }, kinds := [], alts := [], laidByText := true, laidKinds := [.data, .data, .data, .sentinel, .sentinel], laidTests := true, laidLooks := .later }
def StoreVotesCardSaid : Prop := Claim7.holds Tryz.pinned (.plain (OpenSpec.ofChange storeVotesSpec)) storeVotesCard

/-- THE SECOND FORM's CARD OF 'consistorylaw21.StoreVotes'. -/
def storeVotesUptoCard : Claim7 := { stood := { row := storeVotesUptoRow, standIns := [], harness := (true, "65626a78d83b67edf9ad81bdb8b8b089fe3c58bcad02ab4c3963ea741b973ec2"), looks := true }, kinds := [], alts := [], laidByText := true, laidKinds := [.data, .data, .data, .sentinel, .sentinel], laidTests := true, laidLooks := .later }
def StoreVotesUptoCardSaid : Prop := Claim7.holds Tryz.pinned (.plain (OpenSpec.upto storeVotesSpec)) storeVotesUptoCard
end Rows
end Go.Proofs.YtgeknnclmhfjlaaGreatDoor
