/-
  DERIVED. GIVEN WITH THE SEED: THE CARDS: each row of YtlopmcakfalkpaaDoorRows.lean that lists a variable, with what it lists TIED to the program's text (the seventh form; the later family's looks); each row that meets fmt, with fmt's text TOLD by the authors' own Lean function (tested against real Go, not proved from fmt's source: count such statements apart). THE CARD IS WHAT COUNTS. Prove the row's statement (the work); the ties are given (YtlopmcakfalkpaaDoorTie.lean); close each card by the builder's one call (the guide's Derived/Test/ToyasCard.lean, 'card_holds'). Laid BY PROGRAM, IN A SANDBOX (cutbox-door.mjs). By AI agents, Wed Nov 11 2026. No macro, syntax, notation, axiom, sorry.
-/
import Derived.Test.YtlopmcakfalkpaaDoorRows
import GoSem.ClaimSeven
namespace Go.Proofs.YtlopmcakfalkpaaDoor
namespace Rows

/-- THE TIED CARD OF 'mezzaninelaw12.CsrReads'. -/
def csrReadsCard : Claim7 := { stood := { row := csrReadsRow, standIns := [], harness := (true, "b4fc0a09c87cfd508755e44e2c58cd77c0efa8d0e083bacc19c97cfea209ac6c"), looks := false }, kinds := [], alts := [], laidByText := true, laidKinds := [.data], laidTests := true, laidLooks := .later }
def CsrReadsCardSaid : Prop := Claim7.holds Tryd.pinned (.plain (OpenSpec.ofChange csrReadsSpec)) csrReadsCard

/-- THE TIED CARD OF 'mezzaninelaw12.CsrSame'. -/
def csrSameCard : Claim7 := { stood := { row := csrSameRow, standIns := [], harness := (true, "b4fc0a09c87cfd508755e44e2c58cd77c0efa8d0e083bacc19c97cfea209ac6c"), looks := false }, kinds := [], alts := [], laidByText := true, laidKinds := [.data], laidTests := true, laidLooks := .later }
def CsrSameCardSaid : Prop := Claim7.holds Tryd.pinned (.plain (OpenSpec.ofChange csrSameSpec)) csrSameCard

/-- THE TIED CARD OF 'mezzaninelaw12.CsrWrites'. -/
def csrWritesCard : Claim7 := { stood := { row := csrWritesRow, standIns := [], harness := (true, "b4fc0a09c87cfd508755e44e2c58cd77c0efa8d0e083bacc19c97cfea209ac6c"), looks := false }, kinds := [], alts := [], laidByText := true, laidKinds := [.data], laidTests := true, laidLooks := .later }
def CsrWritesCardSaid : Prop := Claim7.holds Tryd.pinned (.plain (OpenSpec.ofChange csrWritesSpec)) csrWritesCard

/-- THE TIED CARD OF 'mezzaninelaw12.CsrFixes'. -/
def csrFixesCard : Claim7 := { stood := { row := csrFixesRow, standIns := [], harness := (true, "b4fc0a09c87cfd508755e44e2c58cd77c0efa8d0e083bacc19c97cfea209ac6c"), looks := false }, kinds := [], alts := [], laidByText := true, laidKinds := [.data], laidTests := true, laidLooks := .later }
def CsrFixesCardSaid : Prop := Claim7.holds Tryd.pinned (.plain (OpenSpec.ofChange csrFixesSpec)) csrFixesCard

/-- THE TIED CARD OF 'mezzaninelaw12.CsrLegals'. -/
def csrLegalsCard : Claim7 := { stood := { row := csrLegalsRow, standIns := [], harness := (true, "b4fc0a09c87cfd508755e44e2c58cd77c0efa8d0e083bacc19c97cfea209ac6c"), looks := false }, kinds := [], alts := [], laidByText := true, laidKinds := [.data], laidTests := true, laidLooks := .later }
def CsrLegalsCardSaid : Prop := Claim7.holds Tryd.pinned (.plain (OpenSpec.ofChange csrLegalsSpec)) csrLegalsCard

/-- THE TIED CARD OF 'mezzaninelaw12.CsrViews'. -/
def csrViewsCard : Claim7 := { stood := { row := csrViewsRow, standIns := [], harness := (true, "b4fc0a09c87cfd508755e44e2c58cd77c0efa8d0e083bacc19c97cfea209ac6c"), looks := false }, kinds := [], alts := [], laidByText := true, laidKinds := [.data], laidTests := true, laidLooks := .later }
def CsrViewsCardSaid : Prop := Claim7.holds Tryd.pinned (.plain (OpenSpec.ofChange csrViewsSpec)) csrViewsCard

/-- THE TIED CARD OF 'mezzaninelaw12.CsrAgain'. -/
def csrAgainCard : Claim7 := { stood := { row := csrAgainRow, standIns := [], harness := (true, "b4fc0a09c87cfd508755e44e2c58cd77c0efa8d0e083bacc19c97cfea209ac6c"), looks := false }, kinds := [], alts := [], laidByText := true, laidKinds := [.data], laidTests := true, laidLooks := .later }
def CsrAgainCardSaid : Prop := Claim7.holds Tryd.pinned (.plain (OpenSpec.ofChange csrAgainSpec)) csrAgainCard

/-- THE TIED CARD OF 'mezzaninelaw12.CsrGuest'. -/
def csrGuestCard : Claim7 := { stood := { row := csrGuestRow, standIns := [], harness := (true, "b4fc0a09c87cfd508755e44e2c58cd77c0efa8d0e083bacc19c97cfea209ac6c"), looks := false }, kinds := [], alts := [], laidByText := true, laidKinds := [.data], laidTests := true, laidLooks := .later }
def CsrGuestCardSaid : Prop := Claim7.holds Tryd.pinned (.plain (OpenSpec.ofChange csrGuestSpec)) csrGuestCard

/-- THE SECOND FORM's CARD OF 'mezzaninelaw12.CsrReads'. -/
def csrReadsUptoCard : Claim7 := { stood := { row := csrReadsUptoRow, standIns := [], harness := (true, "b4fc0a09c87cfd508755e44e2c58cd77c0efa8d0e083bacc19c97cfea209ac6c"), looks := false }, kinds := [], alts := [], laidByText := true, laidKinds := [.data], laidTests := true, laidLooks := .later }
def CsrReadsUptoCardSaid : Prop := Claim7.holds Tryd.pinned (.plain (OpenSpec.upto csrReadsSpec)) csrReadsUptoCard

/-- THE SECOND FORM's CARD OF 'mezzaninelaw12.CsrSame'. -/
def csrSameUptoCard : Claim7 := { stood := { row := csrSameUptoRow, standIns := [], harness := (true, "b4fc0a09c87cfd508755e44e2c58cd77c0efa8d0e083bacc19c97cfea209ac6c"), looks := false }, kinds := [], alts := [], laidByText := true, laidKinds := [.data], laidTests := true, laidLooks := .later }
def CsrSameUptoCardSaid : Prop := Claim7.holds Tryd.pinned (.plain (OpenSpec.upto csrSameSpec)) csrSameUptoCard

/-- THE SECOND FORM's CARD OF 'mezzaninelaw12.CsrWrites'. -/
def csrWritesUptoCard : Claim7 := { stood := { row := csrWritesUptoRow, standIns := [], harness := (true, "b4fc0a09c87cfd508755e44e2c58cd77c0efa8d0e083bacc19c97cfea209ac6c"), looks := false }, kinds := [], alts := [], laidByText := true, laidKinds := [.data], laidTests := true, laidLooks := .later }
def CsrWritesUptoCardSaid : Prop := Claim7.holds Tryd.pinned (.plain (OpenSpec.upto csrWritesSpec)) csrWritesUptoCard

/-- THE SECOND FORM's CARD OF 'mezzaninelaw12.CsrFixes'. -/
def csrFixesUptoCard : Claim7 := { stood := { row := csrFixesUptoRow, standIns := [], harness := (true, "b4fc0a09c87cfd508755e44e2c58cd77c0efa8d0e083bacc19c97cfea209ac6c"), looks := false }, kinds := [], alts := [], laidByText := true, laidKinds := [.data], laidTests := true, laidLooks := .later }
def CsrFixesUptoCardSaid : Prop := Claim7.holds Tryd.pinned (.plain (OpenSpec.upto csrFixesSpec)) csrFixesUptoCard

/-- THE SECOND FORM's CARD OF 'mezzaninelaw12.CsrLegals'. -/
def csrLegalsUptoCard : Claim7 := { stood := { row := csrLegalsUptoRow, standIns := [], harness := (true, "b4fc0a09c87cfd508755e44e2c58cd77c0efa8d0e083bacc19c97cfea209ac6c"), looks := false }, kinds := [], alts := [], laidByText := true, laidKinds := [.data], laidTests := true, laidLooks := .later }
def CsrLegalsUptoCardSaid : Prop := Claim7.holds Tryd.pinned (.plain (OpenSpec.upto csrLegalsSpec)) csrLegalsUptoCard

/-- THE SECOND FORM's CARD OF 'mezzaninelaw12.CsrViews'. -/
def csrViewsUptoCard : Claim7 := { stood := { row := csrViewsUptoRow, standIns := [], harness := (true, "b4fc0a09c87cfd508755e44e2c58cd77c0efa8d0e083bacc19c97cfea209ac6c"), looks := false }, kinds := [], alts := [], laidByText := true, laidKinds := [.data], laidTests := true, laidLooks := .later }
def CsrViewsUptoCardSaid : Prop := Claim7.holds Tryd.pinned (.plain (OpenSpec.upto csrViewsSpec)) csrViewsUptoCard

/-- THE SECOND FORM's CARD OF 'mezzaninelaw12.CsrAgain'. -/
def csrAgainUptoCard : Claim7 := { stood := { row := csrAgainUptoRow, standIns := [], harness := (true, "b4fc0a09c87cfd508755e44e2c58cd77c0efa8d0e083bacc19c97cfea209ac6c"), looks := false }, kinds := [], alts := [], laidByText := true, laidKinds := [.data], laidTests := true, laidLooks := .later }
def CsrAgainUptoCardSaid : Prop := Claim7.holds Tryd.pinned (.plain (OpenSpec.upto csrAgainSpec)) csrAgainUptoCard

/-- THE SECOND FORM's CARD OF 'mezzaninelaw12.CsrGuest'. -/
def csrGuestUptoCard : Claim7 := { stood := { row := csrGuestUptoRow, standIns := [], harness := (true, "b4fc0a09c87cfd508755e44e2c58cd77c0efa8d0e083bacc19c97cfea209ac6c"), looks := false }, kinds := [], alts := [], laidByText := true, laidKinds := [.data], laidTests := true, laidLooks := .later }
def CsrGuestUptoCardSaid : Prop := Claim7.holds Tryd.pinned (.plain (OpenSpec.upto csrGuestSpec)) csrGuestUptoCard
end Rows
end Go.Proofs.YtlopmcakfalkpaaDoor
