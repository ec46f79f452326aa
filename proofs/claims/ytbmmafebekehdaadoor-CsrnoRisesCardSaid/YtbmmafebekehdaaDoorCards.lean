/-
  DERIVED. GIVEN WITH THE SEED: THE CARDS: each row of YtbmmafebekehdaaDoorRows.lean that lists a variable, with what it lists TIED to the program's text (the seventh form; the later family's looks); each row that meets fmt, with fmt's text TOLD by the authors' own Lean function (tested against real Go, not proved from fmt's source: count such statements apart). THE CARD IS WHAT COUNTS. Prove the row's statement (the work); the ties are given (YtbmmafebekehdaaDoorTie.lean); close each card by the builder's one call (the guide's Derived/Test/ToyasCard.lean, 'card_holds'). Laid BY PROGRAM, IN A SANDBOX (cutbox-door.mjs). By AI agents, Wed Nov 11 2026. No macro, syntax, notation, axiom, sorry.
-/
import Derived.Test.YtbmmafebekehdaaDoorRows
import GoSem.ClaimSeven
namespace Go.Proofs.YtbmmafebekehdaaDoor
namespace Rows

/-- THE TIED CARD OF 'mezzaninelaw11.CsrnoNames'. -/
def csrnoNamesCard : Claim7 := { stood := { row := csrnoNamesRow, standIns := [], harness := (true, "24f3b20f3c449204ae4ab2dc6b8235774f0604d350720628331935d37e91d495"), looks := false }, kinds := [], alts := [], laidByText := true, laidKinds := [.data], laidTests := true, laidLooks := .later }
def CsrnoNamesCardSaid : Prop := Claim7.holds Tryd.pinned (.plain (OpenSpec.ofChange csrnoNamesSpec)) csrnoNamesCard

/-- THE TIED CARD OF 'mezzaninelaw11.CsrnoChecks'. -/
def csrnoChecksCard : Claim7 := { stood := { row := csrnoChecksRow, standIns := [], harness := (true, "24f3b20f3c449204ae4ab2dc6b8235774f0604d350720628331935d37e91d495"), looks := false }, kinds := [], alts := [], laidByText := true, laidKinds := [.data], laidTests := true, laidLooks := .later }
def CsrnoChecksCardSaid : Prop := Claim7.holds Tryd.pinned (.plain (OpenSpec.ofChange csrnoChecksSpec)) csrnoChecksCard

/-- THE TIED CARD OF 'mezzaninelaw11.CsrnoRises'. -/
def csrnoRisesCard : Claim7 := { stood := { row := csrnoRisesRow, standIns := [], harness := (true, "24f3b20f3c449204ae4ab2dc6b8235774f0604d350720628331935d37e91d495"), looks := false }, kinds := [], alts := [], laidByText := true, laidKinds := [.data], laidTests := true, laidLooks := .later }
def CsrnoRisesCardSaid : Prop := Claim7.holds Tryd.pinned (.plain (OpenSpec.ofChange csrnoRisesSpec)) csrnoRisesCard

/-- THE TIED CARD OF 'mezzaninelaw11.CsrnoGuest'. -/
def csrnoGuestCard : Claim7 := { stood := { row := csrnoGuestRow, standIns := [], harness := (true, "24f3b20f3c449204ae4ab2dc6b8235774f0604d350720628331935d37e91d495"), looks := false }, kinds := [], alts := [], laidByText := true, laidKinds := [.data], laidTests := true, laidLooks := .later }
def CsrnoGuestCardSaid : Prop := Claim7.holds Tryd.pinned (.plain (OpenSpec.ofChange csrnoGuestSpec)) csrnoGuestCard

/-- THE TIED CARD OF 'mezzaninelaw11.CsrnoBack'. -/
def csrnoBackCard : Claim7 := { stood := { row := csrnoBackRow, standIns := [], harness := (true, "24f3b20f3c449204ae4ab2dc6b8235774f0604d350720628331935d37e91d495"), looks := false }, kinds := [], alts := [], laidByText := true, laidKinds := [.data], laidTests := true, laidLooks := .later }
def CsrnoBackCardSaid : Prop := Claim7.holds Tryd.pinned (.plain (OpenSpec.ofChange csrnoBackSpec)) csrnoBackCard

/-- THE TIED CARD OF 'mezzaninelaw11.CsrnoAlls'. -/
def csrnoAllsCard : Claim7 := { stood := { row := csrnoAllsRow, standIns := [], harness := (true, "24f3b20f3c449204ae4ab2dc6b8235774f0604d350720628331935d37e91d495"), looks := false }, kinds := [], alts := [], laidByText := true, laidKinds := [.data], laidTests := true, laidLooks := .later }
def CsrnoAllsCardSaid : Prop := Claim7.holds Tryd.pinned (.plain (OpenSpec.ofChange csrnoAllsSpec)) csrnoAllsCard

/-- THE SECOND FORM's CARD OF 'mezzaninelaw11.CsrnoNames'. -/
def csrnoNamesUptoCard : Claim7 := { stood := { row := csrnoNamesUptoRow, standIns := [], harness := (true, "24f3b20f3c449204ae4ab2dc6b8235774f0604d350720628331935d37e91d495"), looks := false }, kinds := [], alts := [], laidByText := true, laidKinds := [.data], laidTests := true, laidLooks := .later }
def CsrnoNamesUptoCardSaid : Prop := Claim7.holds Tryd.pinned (.plain (OpenSpec.upto csrnoNamesSpec)) csrnoNamesUptoCard

/-- THE SECOND FORM's CARD OF 'mezzaninelaw11.CsrnoChecks'. -/
def csrnoChecksUptoCard : Claim7 := { stood := { row := csrnoChecksUptoRow, standIns := [], harness := (true, "24f3b20f3c449204ae4ab2dc6b8235774f0604d350720628331935d37e91d495"), looks := false }, kinds := [], alts := [], laidByText := true, laidKinds := [.data], laidTests := true, laidLooks := .later }
def CsrnoChecksUptoCardSaid : Prop := Claim7.holds Tryd.pinned (.plain (OpenSpec.upto csrnoChecksSpec)) csrnoChecksUptoCard

/-- THE SECOND FORM's CARD OF 'mezzaninelaw11.CsrnoRises'. -/
def csrnoRisesUptoCard : Claim7 := { stood := { row := csrnoRisesUptoRow, standIns := [], harness := (true, "24f3b20f3c449204ae4ab2dc6b8235774f0604d350720628331935d37e91d495"), looks := false }, kinds := [], alts := [], laidByText := true, laidKinds := [.data], laidTests := true, laidLooks := .later }
def CsrnoRisesUptoCardSaid : Prop := Claim7.holds Tryd.pinned (.plain (OpenSpec.upto csrnoRisesSpec)) csrnoRisesUptoCard

/-- THE SECOND FORM's CARD OF 'mezzaninelaw11.CsrnoGuest'. -/
def csrnoGuestUptoCard : Claim7 := { stood := { row := csrnoGuestUptoRow, standIns := [], harness := (true, "24f3b20f3c449204ae4ab2dc6b8235774f0604d350720628331935d37e91d495"), looks := false }, kinds := [], alts := [], laidByText := true, laidKinds := [.data], laidTests := true, laidLooks := .later }
def CsrnoGuestUptoCardSaid : Prop := Claim7.holds Tryd.pinned (.plain (OpenSpec.upto csrnoGuestSpec)) csrnoGuestUptoCard

/-- THE SECOND FORM's CARD OF 'mezzaninelaw11.CsrnoBack'. -/
def csrnoBackUptoCard : Claim7 := { stood := { row := csrnoBackUptoRow, standIns := [], harness := (true, "24f3b20f3c449204ae4ab2dc6b8235774f0604d350720628331935d37e91d495"), looks := false }, kinds := [], alts := [], laidByText := true, laidKinds := [.data], laidTests := true, laidLooks := .later }
def CsrnoBackUptoCardSaid : Prop := Claim7.holds Tryd.pinned (.plain (OpenSpec.upto csrnoBackSpec)) csrnoBackUptoCard

/-- THE SECOND FORM's CARD OF 'mezzaninelaw11.CsrnoAlls'. -/
def csrnoAllsUptoCard : Claim7 := { stood := { row := csrnoAllsUptoRow, standIns := [], harness := (true, "24f3b20f3c449204ae4ab2dc6b8235774f0604d350720628331935d37e91d495"), looks := false }, kinds := [], alts := [], laidByText := true, laidKinds := [.data], laidTests := true, laidLooks := .later }
def CsrnoAllsUptoCardSaid : Prop := Claim7.holds Tryd.pinned (.plain (OpenSpec.upto csrnoAllsSpec)) csrnoAllsUptoCard
end Rows
end Go.Proofs.YtbmmafebekehdaaDoor
