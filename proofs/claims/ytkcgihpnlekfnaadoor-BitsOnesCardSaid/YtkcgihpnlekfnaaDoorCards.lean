/-
  DERIVED. GIVEN WITH THE SEED: THE CARDS: each row of YtkcgihpnlekfnaaDoorRows.lean that lists a variable, with what it lists TIED to the program's text (the seventh form; the later family's looks); each row that meets fmt, with fmt's text TOLD by the authors' own Lean function (tested against real Go, not proved from fmt's source: count such statements apart). THE CARD IS WHAT COUNTS. Prove the row's statement (the work); the ties are given (YtkcgihpnlekfnaaDoorTie.lean); close each card by the builder's one call (the guide's Derived/Test/ToyasCard.lean, 'card_holds'). Laid BY PROGRAM, IN A SANDBOX (cutbox-door.mjs). By AI agents, Wed Nov 11 2026. No macro, syntax, notation, axiom, sorry.
-/
import Derived.Test.YtkcgihpnlekfnaaDoorRows
import GoSem.ClaimSeven
namespace Go.Proofs.YtkcgihpnlekfnaaDoor
namespace Rows

/-- THE TIED CARD OF 'mezzaninelaw01.BitsOnes'. -/
def bitsOnesCard : Claim7 := { stood := { row := bitsOnesRow, standIns := [], harness := (true, "41be4dad247e9dc7f1c2b675fe157c0f4a917965958c190a2175046f7b8af4c7"), looks := false }, kinds := [], alts := [], laidByText := true, laidKinds := [.data], laidTests := true, laidLooks := .later }
def BitsOnesCardSaid : Prop := Claim7.holds Tryd.pinned (.plain (OpenSpec.ofChange bitsOnesSpec)) bitsOnesCard

/-- THE TIED CARD OF 'mezzaninelaw01.BitsCounts'. -/
def bitsCountsCard : Claim7 := { stood := { row := bitsCountsRow, standIns := [], harness := (true, "41be4dad247e9dc7f1c2b675fe157c0f4a917965958c190a2175046f7b8af4c7"), looks := false }, kinds := [], alts := [], laidByText := true, laidKinds := [.data], laidTests := true, laidLooks := .later }
def BitsCountsCardSaid : Prop := Claim7.holds Tryd.pinned (.plain (OpenSpec.ofChange bitsCountsSpec)) bitsCountsCard

/-- THE TIED CARD OF 'mezzaninelaw01.BitsKnown'. -/
def bitsKnownCard : Claim7 := { stood := { row := bitsKnownRow, standIns := [], harness := (true, "41be4dad247e9dc7f1c2b675fe157c0f4a917965958c190a2175046f7b8af4c7"), looks := false }, kinds := [], alts := [], laidByText := true, laidKinds := [.data], laidTests := true, laidLooks := .later }
def BitsKnownCardSaid : Prop := Claim7.holds Tryd.pinned (.plain (OpenSpec.ofChange bitsKnownSpec)) bitsKnownCard

/-- THE SECOND FORM's CARD OF 'mezzaninelaw01.BitsOnes'. -/
def bitsOnesUptoCard : Claim7 := { stood := { row := bitsOnesUptoRow, standIns := [], harness := (true, "41be4dad247e9dc7f1c2b675fe157c0f4a917965958c190a2175046f7b8af4c7"), looks := false }, kinds := [], alts := [], laidByText := true, laidKinds := [.data], laidTests := true, laidLooks := .later }
def BitsOnesUptoCardSaid : Prop := Claim7.holds Tryd.pinned (.plain (OpenSpec.upto bitsOnesSpec)) bitsOnesUptoCard

/-- THE SECOND FORM's CARD OF 'mezzaninelaw01.BitsCounts'. -/
def bitsCountsUptoCard : Claim7 := { stood := { row := bitsCountsUptoRow, standIns := [], harness := (true, "41be4dad247e9dc7f1c2b675fe157c0f4a917965958c190a2175046f7b8af4c7"), looks := false }, kinds := [], alts := [], laidByText := true, laidKinds := [.data], laidTests := true, laidLooks := .later }
def BitsCountsUptoCardSaid : Prop := Claim7.holds Tryd.pinned (.plain (OpenSpec.upto bitsCountsSpec)) bitsCountsUptoCard

/-- THE SECOND FORM's CARD OF 'mezzaninelaw01.BitsKnown'. -/
def bitsKnownUptoCard : Claim7 := { stood := { row := bitsKnownUptoRow, standIns := [], harness := (true, "41be4dad247e9dc7f1c2b675fe157c0f4a917965958c190a2175046f7b8af4c7"), looks := false }, kinds := [], alts := [], laidByText := true, laidKinds := [.data], laidTests := true, laidLooks := .later }
def BitsKnownUptoCardSaid : Prop := Claim7.holds Tryd.pinned (.plain (OpenSpec.upto bitsKnownSpec)) bitsKnownUptoCard
end Rows
end Go.Proofs.YtkcgihpnlekfnaaDoor
