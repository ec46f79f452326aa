/-
  DERIVED. GIVEN WITH THE SEED: THE CARDS: each row of YtpbodidpcbodaaaDoorRows.lean that lists a variable, with what it lists TIED to the program's text (the seventh form; the later family's looks); each row that meets fmt, with fmt's text TOLD by the authors' own Lean function (tested against real Go, not proved from fmt's source: count such statements apart). THE CARD IS WHAT COUNTS. Prove the row's statement (the work); the ties are given (YtpbodidpcbodaaaDoorTie.lean); close each card by the builder's one call (the guide's Derived/Test/ToyasCard.lean, 'card_holds'). Laid BY PROGRAM, IN A SANDBOX (cutbox-door.mjs). By AI agents, Wed Nov 11 2026. No macro, syntax, notation, axiom, sorry.
-/
import Derived.Test.YtpbodidpcbodaaaDoorRows
import GoSem.ClaimSeven
namespace Go.Proofs.YtpbodidpcbodaaaDoor
namespace Rows

/-- THE TIED CARD OF 'mezzaninelaw13.IrqGuests'. -/
def irqGuestsCard : Claim7 := { stood := { row := irqGuestsRow, standIns := [], harness := (true, "ec3f77211bd31eaf0d3dfd9908c3f04948d8b9e4fac1df06e159cd9393414c6a"), looks := false }, kinds := [], alts := [], laidByText := true, laidKinds := [.data, .data], laidTests := true, laidLooks := .later }
def IrqGuestsCardSaid : Prop := Claim7.holds Tryd.pinned (.plain (OpenSpec.ofChange irqGuestsSpec)) irqGuestsCard

/-- THE TIED CARD OF 'mezzaninelaw13.IrqFewer'. -/
def irqFewerCard : Claim7 := { stood := { row := irqFewerRow, standIns := [], harness := (true, "ec3f77211bd31eaf0d3dfd9908c3f04948d8b9e4fac1df06e159cd9393414c6a"), looks := false }, kinds := [], alts := [], laidByText := true, laidKinds := [.data, .data], laidTests := true, laidLooks := .later }
def IrqFewerCardSaid : Prop := Claim7.holds Tryd.pinned (.plain (OpenSpec.ofChange irqFewerSpec)) irqFewerCard

/-- THE TIED CARD OF 'mezzaninelaw13.IrqNexts'. -/
def irqNextsCard : Claim7 := { stood := { row := irqNextsRow, standIns := [], harness := (true, "ec3f77211bd31eaf0d3dfd9908c3f04948d8b9e4fac1df06e159cd9393414c6a"), looks := false }, kinds := [], alts := [], laidByText := true, laidKinds := [.data, .data], laidTests := true, laidLooks := .later }
def IrqNextsCardSaid : Prop := Claim7.holds Tryd.pinned (.plain (OpenSpec.ofChange irqNextsSpec)) irqNextsCard

/-- THE TIED CARD OF 'mezzaninelaw13.IrqAsked'. -/
def irqAskedCard : Claim7 := { stood := { row := irqAskedRow, standIns := [], harness := (true, "ec3f77211bd31eaf0d3dfd9908c3f04948d8b9e4fac1df06e159cd9393414c6a"), looks := false }, kinds := [], alts := [], laidByText := true, laidKinds := [.data, .data], laidTests := true, laidLooks := .later }
def IrqAskedCardSaid : Prop := Claim7.holds Tryd.pinned (.plain (OpenSpec.ofChange irqAskedSpec)) irqAskedCard

/-- THE SECOND FORM's CARD OF 'mezzaninelaw13.IrqGuests'. -/
def irqGuestsUptoCard : Claim7 := { stood := { row := irqGuestsUptoRow, standIns := [], harness := (true, "ec3f77211bd31eaf0d3dfd9908c3f04948d8b9e4fac1df06e159cd9393414c6a"), looks := false }, kinds := [], alts := [], laidByText := true, laidKinds := [.data, .data], laidTests := true, laidLooks := .later }
def IrqGuestsUptoCardSaid : Prop := Claim7.holds Tryd.pinned (.plain (OpenSpec.upto irqGuestsSpec)) irqGuestsUptoCard

/-- THE SECOND FORM's CARD OF 'mezzaninelaw13.IrqFewer'. -/
def irqFewerUptoCard : Claim7 := { stood := { row := irqFewerUptoRow, standIns := [], harness := (true, "ec3f77211bd31eaf0d3dfd9908c3f04948d8b9e4fac1df06e159cd9393414c6a"), looks := false }, kinds := [], alts := [], laidByText := true, laidKinds := [.data, .data], laidTests := true, laidLooks := .later }
def IrqFewerUptoCardSaid : Prop := Claim7.holds Tryd.pinned (.plain (OpenSpec.upto irqFewerSpec)) irqFewerUptoCard

/-- THE SECOND FORM's CARD OF 'mezzaninelaw13.IrqNexts'. -/
def irqNextsUptoCard : Claim7 := { stood := { row := irqNextsUptoRow, standIns := [], harness := (true, "ec3f77211bd31eaf0d3dfd9908c3f04948d8b9e4fac1df06e159cd9393414c6a"), looks := false }, kinds := [], alts := [], laidByText := true, laidKinds := [.data, .data], laidTests := true, laidLooks := .later }
def IrqNextsUptoCardSaid : Prop := Claim7.holds Tryd.pinned (.plain (OpenSpec.upto irqNextsSpec)) irqNextsUptoCard

/-- THE SECOND FORM's CARD OF 'mezzaninelaw13.IrqAsked'. -/
def irqAskedUptoCard : Claim7 := { stood := { row := irqAskedUptoRow, standIns := [], harness := (true, "ec3f77211bd31eaf0d3dfd9908c3f04948d8b9e4fac1df06e159cd9393414c6a"), looks := false }, kinds := [], alts := [], laidByText := true, laidKinds := [.data, .data], laidTests := true, laidLooks := .later }
def IrqAskedUptoCardSaid : Prop := Claim7.holds Tryd.pinned (.plain (OpenSpec.upto irqAskedSpec)) irqAskedUptoCard
end Rows
end Go.Proofs.YtpbodidpcbodaaaDoor
