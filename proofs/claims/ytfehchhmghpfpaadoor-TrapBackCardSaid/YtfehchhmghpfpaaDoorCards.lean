/-
  DERIVED. GIVEN WITH THE SEED: THE CARDS: each row of YtfehchhmghpfpaaDoorRows.lean that lists a variable, with what it lists TIED to the program's text (the seventh form; the later family's looks); each row that meets fmt, with fmt's text TOLD by the authors' own Lean function (tested against real Go, not proved from fmt's source: count such statements apart). THE CARD IS WHAT COUNTS. Prove the row's statement (the work); the ties are given (YtfehchhmghpfpaaDoorTie.lean); close each card by the builder's one call (the guide's Derived/Test/ToyasCard.lean, 'card_holds'). Laid BY PROGRAM, IN A SANDBOX (cutbox-door.mjs). By AI agents, Wed Nov 11 2026. No macro, syntax, notation, axiom, sorry.
-/
import Derived.Test.YtfehchhmghpfpaaDoorRows
import GoSem.ClaimSeven
namespace Go.Proofs.YtfehchhmghpfpaaDoor
namespace Rows

/-- THE TIED CARD OF 'mezzaninelaw14.TrapBack'. -/
def trapBackCard : Claim7 := { stood := { row := trapBackRow, standIns := [], harness := (true, "5cfbc94b31420745640bae7cee2202a07e49a9bc27bd450a687143d9876cf465"), looks := false }, kinds := [], alts := [], laidByText := true, laidKinds := [.data], laidTests := true, laidLooks := .later }
def TrapBackCardSaid : Prop := Claim7.holds Tryd.pinned (.plain (OpenSpec.ofChange trapBackSpec)) trapBackCard

/-- THE TIED CARD OF 'mezzaninelaw14.TrapUp'. -/
def trapUpCard : Claim7 := { stood := { row := trapUpRow, standIns := [], harness := (true, "5cfbc94b31420745640bae7cee2202a07e49a9bc27bd450a687143d9876cf465"), looks := false }, kinds := [], alts := [], laidByText := true, laidKinds := [.data], laidTests := true, laidLooks := .later }
def TrapUpCardSaid : Prop := Claim7.holds Tryd.pinned (.plain (OpenSpec.ofChange trapUpSpec)) trapUpCard

/-- THE SECOND FORM's CARD OF 'mezzaninelaw14.TrapBack'. -/
def trapBackUptoCard : Claim7 := { stood := { row := trapBackUptoRow, standIns := [], harness := (true, "5cfbc94b31420745640bae7cee2202a07e49a9bc27bd450a687143d9876cf465"), looks := false }, kinds := [], alts := [], laidByText := true, laidKinds := [.data], laidTests := true, laidLooks := .later }
def TrapBackUptoCardSaid : Prop := Claim7.holds Tryd.pinned (.plain (OpenSpec.upto trapBackSpec)) trapBackUptoCard

/-- THE SECOND FORM's CARD OF 'mezzaninelaw14.TrapUp'. -/
def trapUpUptoCard : Claim7 := { stood := { row := trapUpUptoRow, standIns := [], harness := (true, "5cfbc94b31420745640bae7cee2202a07e49a9bc27bd450a687143d9876cf465"), looks := false }, kinds := [], alts := [], laidByText := true, laidKinds := [.data], laidTests := true, laidLooks := .later }
def TrapUpUptoCardSaid : Prop := Claim7.holds Tryd.pinned (.plain (OpenSpec.upto trapUpSpec)) trapUpUptoCard
end Rows
end Go.Proofs.YtfehchhmghpfpaaDoor
