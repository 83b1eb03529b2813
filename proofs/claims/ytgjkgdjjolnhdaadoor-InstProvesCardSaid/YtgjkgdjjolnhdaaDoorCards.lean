/-
  DERIVED. GIVEN WITH THE SEED: THE CARDS: each row of YtgjkgdjjolnhdaaDoorRows.lean that lists a variable, with what it lists TIED to the program's text (the seventh form; the later family's looks); each row that meets fmt, with fmt's text TOLD by the authors' own Lean function (tested against real Go, not proved from fmt's source: count such statements apart). THE CARD IS WHAT COUNTS. Prove the row's statement (the work); the ties are given (YtgjkgdjjolnhdaaDoorTie.lean); close each card by the builder's one call (the guide's Derived/Test/ToyasCard.lean, 'card_holds'). Laid BY PROGRAM, IN A SANDBOX (cutbox-door.mjs). By AI agents, Wed Nov 11 2026. No macro, syntax, notation, axiom, sorry.
-/
import Derived.Test.YtgjkgdjjolnhdaaDoorRows
import GoSem.ClaimSeven
namespace Go.Proofs.YtgjkgdjjolnhdaaDoor
namespace Rows

/-- THE TIED CARD OF 'consistorylaw17.CertsShare'. -/
def certsShareCard : Claim7 := { stood := { row := certsShareRow, standIns := [], harness := (true, "1cde2df0af24e2080d2e499837f48f8e060c57bd91526e47e656034d692971a1"), looks := true }, kinds := [], alts := [], laidByText := true, laidKinds := [.data], laidTests := true, laidLooks := .later }
def CertsShareCardSaid : Prop := Claim7.holds Tryd.pinned (.plain (OpenSpec.ofChange certsShareSpec)) certsShareCard

/-- THE TIED CARD OF 'consistorylaw17.CertsMore'. -/
def certsMoreCard : Claim7 := { stood := { row := certsMoreRow, standIns := [], harness := (true, "1cde2df0af24e2080d2e499837f48f8e060c57bd91526e47e656034d692971a1"), looks := true }, kinds := [], alts := [], laidByText := true, laidKinds := [.data], laidTests := true, laidLooks := .later }
def CertsMoreCardSaid : Prop := Claim7.holds Tryd.pinned (.plain (OpenSpec.ofChange certsMoreSpec)) certsMoreCard

/-- THE TIED CARD OF 'consistorylaw17.CertsWho'. -/
def certsWhoCard : Claim7 := { stood := { row := certsWhoRow, standIns := [], harness := (true, "1cde2df0af24e2080d2e499837f48f8e060c57bd91526e47e656034d692971a1"), looks := true }, kinds := [], alts := [], laidByText := true, laidKinds := [.data], laidTests := true, laidLooks := .later }
def CertsWhoCardSaid : Prop := Claim7.holds Tryd.pinned (.plain (OpenSpec.ofChange certsWhoSpec)) certsWhoCard

/-- THE TIED CARD OF 'consistorylaw17.CertsLeast'. -/
def certsLeastCard : Claim7 := { stood := { row := certsLeastRow, standIns := [], harness := (true, "1cde2df0af24e2080d2e499837f48f8e060c57bd91526e47e656034d692971a1"), looks := true }, kinds := [], alts := [], laidByText := true, laidKinds := [.data], laidTests := true, laidLooks := .later }
def CertsLeastCardSaid : Prop := Claim7.holds Tryd.pinned (.plain (OpenSpec.ofChange certsLeastSpec)) certsLeastCard

/-- THE TIED CARD OF 'consistorylaw18.InstStays'. -/
def instStaysCard : Claim7 := { stood := { row := instStaysRow, standIns := [], harness := (true, "1cde2df0af24e2080d2e499837f48f8e060c57bd91526e47e656034d692971a1"), looks := true }, kinds := [], alts := [], laidByText := true, laidKinds := [.data], laidTests := true, laidLooks := .later }
def InstStaysCardSaid : Prop := Claim7.holds Tryd.pinned (.plain (OpenSpec.ofChange instStaysSpec)) instStaysCard

/-- THE TIED CARD OF 'consistorylaw18.InstProves'. -/
def instProvesCard : Claim7 := { stood := { row := instProvesRow, standIns := [], harness := (true, "1cde2df0af24e2080d2e499837f48f8e060c57bd91526e47e656034d692971a1"), looks := true }, kinds := [], alts := [], laidByText := true, laidKinds := [.data], laidTests := true, laidLooks := .later }
def InstProvesCardSaid : Prop := Claim7.holds Tryd.pinned (.plain (OpenSpec.ofChange instProvesSpec)) instProvesCard

/-- THE TIED CARD OF 'consistorylaw18.InstOrder'. -/
def instOrderCard : Claim7 := { stood := { row := instOrderRow, standIns := [], harness := (true, "1cde2df0af24e2080d2e499837f48f8e060c57bd91526e47e656034d692971a1"), looks := true }, kinds := [], alts := [], laidByText := true, laidKinds := [.data], laidTests := true, laidLooks := .later }
def InstOrderCardSaid : Prop := Claim7.holds Tryd.pinned (.plain (OpenSpec.ofChange instOrderSpec)) instOrderCard

/-- THE TIED CARD OF 'consistorylaw18.InstNil'. -/
def instNilCard : Claim7 := { stood := { row := instNilRow, standIns := [], harness := (true, "1cde2df0af24e2080d2e499837f48f8e060c57bd91526e47e656034d692971a1"), looks := true }, kinds := [], alts := [], laidByText := true, laidKinds := [.data], laidTests := true, laidLooks := .later }
def InstNilCardSaid : Prop := Claim7.holds Tryd.pinned (.plain (OpenSpec.ofChange instNilSpec)) instNilCard

/-- THE SECOND FORM's CARD OF 'consistorylaw17.CertsShare'. -/
def certsShareUptoCard : Claim7 := { stood := { row := certsShareUptoRow, standIns := [], harness := (true, "1cde2df0af24e2080d2e499837f48f8e060c57bd91526e47e656034d692971a1"), looks := true }, kinds := [], alts := [], laidByText := true, laidKinds := [.data], laidTests := true, laidLooks := .later }
def CertsShareUptoCardSaid : Prop := Claim7.holds Tryd.pinned (.plain (OpenSpec.upto certsShareSpec)) certsShareUptoCard

/-- THE SECOND FORM's CARD OF 'consistorylaw17.CertsMore'. -/
def certsMoreUptoCard : Claim7 := { stood := { row := certsMoreUptoRow, standIns := [], harness := (true, "1cde2df0af24e2080d2e499837f48f8e060c57bd91526e47e656034d692971a1"), looks := true }, kinds := [], alts := [], laidByText := true, laidKinds := [.data], laidTests := true, laidLooks := .later }
def CertsMoreUptoCardSaid : Prop := Claim7.holds Tryd.pinned (.plain (OpenSpec.upto certsMoreSpec)) certsMoreUptoCard

/-- THE SECOND FORM's CARD OF 'consistorylaw17.CertsWho'. -/
def certsWhoUptoCard : Claim7 := { stood := { row := certsWhoUptoRow, standIns := [], harness := (true, "1cde2df0af24e2080d2e499837f48f8e060c57bd91526e47e656034d692971a1"), looks := true }, kinds := [], alts := [], laidByText := true, laidKinds := [.data], laidTests := true, laidLooks := .later }
def CertsWhoUptoCardSaid : Prop := Claim7.holds Tryd.pinned (.plain (OpenSpec.upto certsWhoSpec)) certsWhoUptoCard

/-- THE SECOND FORM's CARD OF 'consistorylaw17.CertsLeast'. -/
def certsLeastUptoCard : Claim7 := { stood := { row := certsLeastUptoRow, standIns := [], harness := (true, "1cde2df0af24e2080d2e499837f48f8e060c57bd91526e47e656034d692971a1"), looks := true }, kinds := [], alts := [], laidByText := true, laidKinds := [.data], laidTests := true, laidLooks := .later }
def CertsLeastUptoCardSaid : Prop := Claim7.holds Tryd.pinned (.plain (OpenSpec.upto certsLeastSpec)) certsLeastUptoCard

/-- THE SECOND FORM's CARD OF 'consistorylaw18.InstStays'. -/
def instStaysUptoCard : Claim7 := { stood := { row := instStaysUptoRow, standIns := [], harness := (true, "1cde2df0af24e2080d2e499837f48f8e060c57bd91526e47e656034d692971a1"), looks := true }, kinds := [], alts := [], laidByText := true, laidKinds := [.data], laidTests := true, laidLooks := .later }
def InstStaysUptoCardSaid : Prop := Claim7.holds Tryd.pinned (.plain (OpenSpec.upto instStaysSpec)) instStaysUptoCard

/-- THE SECOND FORM's CARD OF 'consistorylaw18.InstProves'. -/
def instProvesUptoCard : Claim7 := { stood := { row := instProvesUptoRow, standIns := [], harness := (true, "1cde2df0af24e2080d2e499837f48f8e060c57bd91526e47e656034d692971a1"), looks := true }, kinds := [], alts := [], laidByText := true, laidKinds := [.data], laidTests := true, laidLooks := .later }
def InstProvesUptoCardSaid : Prop := Claim7.holds Tryd.pinned (.plain (OpenSpec.upto instProvesSpec)) instProvesUptoCard

/-- THE SECOND FORM's CARD OF 'consistorylaw18.InstOrder'. -/
def instOrderUptoCard : Claim7 := { stood := { row := instOrderUptoRow, standIns := [], harness := (true, "1cde2df0af24e2080d2e499837f48f8e060c57bd91526e47e656034d692971a1"), looks := true }, kinds := [], alts := [], laidByText := true, laidKinds := [.data], laidTests := true, laidLooks := .later }
def InstOrderUptoCardSaid : Prop := Claim7.holds Tryd.pinned (.plain (OpenSpec.upto instOrderSpec)) instOrderUptoCard

/-- THE SECOND FORM's CARD OF 'consistorylaw18.InstNil'. -/
def instNilUptoCard : Claim7 := { stood := { row := instNilUptoRow, standIns := [], harness := (true, "1cde2df0af24e2080d2e499837f48f8e060c57bd91526e47e656034d692971a1"), looks := true }, kinds := [], alts := [], laidByText := true, laidKinds := [.data], laidTests := true, laidLooks := .later }
def InstNilUptoCardSaid : Prop := Claim7.holds Tryd.pinned (.plain (OpenSpec.upto instNilSpec)) instNilUptoCard
end Rows
end Go.Proofs.YtgjkgdjjolnhdaaDoor
