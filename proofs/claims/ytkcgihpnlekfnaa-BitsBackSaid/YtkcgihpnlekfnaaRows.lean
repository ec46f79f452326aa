/-
  No cell of these rows narrows 'for every input' (looked for: loops, veiled, ifaces, maps, wideKeys, modest, calm, conditions, laid).
  DERIVED. THE GIVEN ROWS OF THIS SEAT. 5 by the template 'for every input the law returns true; each argument reads behind the call as it read before'; 0 by the template 'total and deterministic' (their statements: YtkcgihpnlekfnaaTotals.lean).
  GIVEN WITH THE SEED: the statements are not yours to turn. If you find one false, say at which input.
  Laid BY PROGRAM, IN A SANDBOX (cutbox-rows.mjs): the forced cells as the released guide's own fill.sh prints them over the translation 71a88be096cac455… (all of the seat's roots in one cut). By AI agents, Wed Nov 11 2026. No macro, syntax, notation, axiom, sorry.
-/
import Derived.Test.YtkcgihpnlekfnaaChecked
import GoSem.Claim
import GoSem.ClaimJoined
import GoSem.ClaimMapViews
import Derived.JoinedTies
import Derived.KernelRfl
namespace Go.Proofs.Ytkcgihpnlekfnaa
/- THE CELL 'sum', in the pinned program and in every row, IS THE sha256 OF THE DUMP (.gsa) THAT YtkcgihpnlekfnaaProg.lean LOADS. Nothing in Lean hashes anything: it is a label: what it is worth is what the hold of that sum in a sandbox is worth. -/
noncomputable def Try.pinned : Pinned := { name := "ytkcgihpnlekfnaa", sum := "71a88be096cac455a4b928993abae46e26d934d82e57bbeba74074abce86283b", checked := Try.checked }
namespace Rows
def none {H : Type} : Left H := { results := [], args := [] }

/-- 'mezzaninelaw01.BitsSigns': WHATEVER THE INPUT: true; the input reads as it did. -/
def bitsSignsSpec : ChangeSpec := { name := "bitsSigns", fn := fun _ => fun
  | [d1, d2] => { results := [.lit (.bool true)], args := [d1, d2] }
  | _ => none }
def bitsSignsRow : OpenClaim := { program := "ytkcgihpnlekfnaa", sum := "71a88be096cac455a4b928993abae46e26d934d82e57bbeba74074abce86283b", func := "mezzanine/mezzaninelaw01.BitsSigns", spec := "bitsSigns", apart := false }
def BitsSignsSaid : Prop := bitsSignsRow.holds Try.pinned (OpenSpec.ofChange bitsSignsSpec)

/-- ITS FALSE NEIGHBOUR: 'it returns false'. Refute it at one input. -/
def bitsSignsWrong : ChangeSpec := { name := "bitsSigns", fn := fun _ => fun
  | [d1, d2] => { results := [.lit (.bool false)], args := [d1, d2] }
  | _ => none }
def BitsSignsWrongFalsely : Prop := bitsSignsRow.holds Try.pinned (OpenSpec.ofChange bitsSignsWrong)

/-- 'mezzaninelaw01.BitsDrawn': WHATEVER THE INPUT: true; the input reads as it did. -/
def bitsDrawnSpec : ChangeSpec := { name := "bitsDrawn", fn := fun _ => fun
  | [d1, d2] => { results := [.lit (.bool true)], args := [d1, d2] }
  | _ => none }
def bitsDrawnRow : OpenClaim := { program := "ytkcgihpnlekfnaa", sum := "71a88be096cac455a4b928993abae46e26d934d82e57bbeba74074abce86283b", func := "mezzanine/mezzaninelaw01.BitsDrawn", spec := "bitsDrawn", apart := false }
def BitsDrawnSaid : Prop := bitsDrawnRow.holds Try.pinned (OpenSpec.ofChange bitsDrawnSpec)

/-- ITS FALSE NEIGHBOUR: 'it returns false'. Refute it at one input. -/
def bitsDrawnWrong : ChangeSpec := { name := "bitsDrawn", fn := fun _ => fun
  | [d1, d2] => { results := [.lit (.bool false)], args := [d1, d2] }
  | _ => none }
def BitsDrawnWrongFalsely : Prop := bitsDrawnRow.holds Try.pinned (OpenSpec.ofChange bitsDrawnWrong)

/-- 'mezzaninelaw01.BitsPieces': WHATEVER THE INPUT: true; the input reads as it did. -/
def bitsPiecesSpec : ChangeSpec := { name := "bitsPieces", fn := fun _ => fun
  | [d1, d2, d3, d4] => { results := [.lit (.bool true)], args := [d1, d2, d3, d4] }
  | _ => none }
def bitsPiecesRow : OpenClaim := { program := "ytkcgihpnlekfnaa", sum := "71a88be096cac455a4b928993abae46e26d934d82e57bbeba74074abce86283b", func := "mezzanine/mezzaninelaw01.BitsPieces", spec := "bitsPieces", apart := false }
def BitsPiecesSaid : Prop := bitsPiecesRow.holds Try.pinned (OpenSpec.ofChange bitsPiecesSpec)

/-- ITS FALSE NEIGHBOUR: 'it returns false'. Refute it at one input. -/
def bitsPiecesWrong : ChangeSpec := { name := "bitsPieces", fn := fun _ => fun
  | [d1, d2, d3, d4] => { results := [.lit (.bool false)], args := [d1, d2, d3, d4] }
  | _ => none }
def BitsPiecesWrongFalsely : Prop := bitsPiecesRow.holds Try.pinned (OpenSpec.ofChange bitsPiecesWrong)

/-- 'mezzaninelaw01.BitsBack': WHATEVER THE INPUT: true; the input reads as it did. -/
def bitsBackSpec : ChangeSpec := { name := "bitsBack", fn := fun _ => fun
  | [d1, d2, d3, d4, d5] => { results := [.lit (.bool true)], args := [d1, d2, d3, d4, d5] }
  | _ => none }
def bitsBackRow : OpenClaim := { program := "ytkcgihpnlekfnaa", sum := "71a88be096cac455a4b928993abae46e26d934d82e57bbeba74074abce86283b", func := "mezzanine/mezzaninelaw01.BitsBack", spec := "bitsBack", apart := false }
def BitsBackSaid : Prop := bitsBackRow.holds Try.pinned (OpenSpec.ofChange bitsBackSpec)

/-- ITS FALSE NEIGHBOUR: 'it returns false'. Refute it at one input. -/
def bitsBackWrong : ChangeSpec := { name := "bitsBack", fn := fun _ => fun
  | [d1, d2, d3, d4, d5] => { results := [.lit (.bool false)], args := [d1, d2, d3, d4, d5] }
  | _ => none }
def BitsBackWrongFalsely : Prop := bitsBackRow.holds Try.pinned (OpenSpec.ofChange bitsBackWrong)

/-- 'mezzaninelaw01.BitsUps': WHATEVER THE INPUT: true; the input reads as it did. -/
def bitsUpsSpec : ChangeSpec := { name := "bitsUps", fn := fun _ => fun
  | [d1, d2] => { results := [.lit (.bool true)], args := [d1, d2] }
  | _ => none }
def bitsUpsRow : OpenClaim := { program := "ytkcgihpnlekfnaa", sum := "71a88be096cac455a4b928993abae46e26d934d82e57bbeba74074abce86283b", func := "mezzanine/mezzaninelaw01.BitsUps", spec := "bitsUps", apart := false }
def BitsUpsSaid : Prop := bitsUpsRow.holds Try.pinned (OpenSpec.ofChange bitsUpsSpec)

/-- ITS FALSE NEIGHBOUR: 'it returns false'. Refute it at one input. -/
def bitsUpsWrong : ChangeSpec := { name := "bitsUps", fn := fun _ => fun
  | [d1, d2] => { results := [.lit (.bool false)], args := [d1, d2] }
  | _ => none }
def BitsUpsWrongFalsely : Prop := bitsUpsRow.holds Try.pinned (OpenSpec.ofChange bitsUpsWrong)

/- THE SECOND FORM. 'bulk': how many values and letters a reading holds, each counted each time it is reached (what is shared counts as often as it is met; a slice's spare places count too). A statement '..UptoSaid' is the law's where the arguments, and the package variables that the reading takes, are together of bulk at most 1048576: NARROWER than '..Said'. Prove '..Said' where nothing that the law and all that it calls make is longer than what came in: it says more and counts as full. Else prove '..UptoSaid'. A law counts once. -/
mutual
def uptoBulk {H : Type} : DataW H → Nat
  | .lit (.string bytes) => bytes.length + 1
  | .lit _ => 1
  | .nil => 1
  | .ptr d => uptoBulk d + 1
  | .slice elems spare => uptoBulkAll elems + uptoBulkAll spare + 1
  | .agg parts => uptoBulkAll parts + 1
  | .iface _ d => uptoBulk d + 1
  | .map entries => uptoBulkEntries entries + 1
  | .held _ => 1
def uptoBulkAll {H : Type} : List (DataW H) → Nat
  | [] => 0
  | d :: r => uptoBulk d + uptoBulkAll r
def uptoBulkEntries {H : Type} : List (Lit × DataW H) → Nat
  | [] => 0
  | x :: r => uptoBulkEntry x + uptoBulkEntries r
def uptoBulkEntry {H : Type} : Lit × DataW H → Nat
  | (.string bytes, d) => bytes.length + uptoBulk d + 1
  | (_, d) => uptoBulk d + 1
 end
def uptoSmall : (H : Type) → List (DataW H) → Bool := fun _ ds => decide (uptoBulkAll ds ≤ 1048576)
def OpenSpec.upto (s : _root_.Go.ChangeSpec) : _root_.Go.OpenSpec := { _root_.Go.OpenSpec.ofChange s with cond := some uptoSmall }

/-- 'mezzaninelaw01.BitsSigns', WHERE WHAT IT READS IS OF BULK AT MOST 1048576: true; the input reads as it did. -/
def bitsSignsUptoRow : OpenClaim := { program := "ytkcgihpnlekfnaa", sum := "71a88be096cac455a4b928993abae46e26d934d82e57bbeba74074abce86283b", func := "mezzanine/mezzaninelaw01.BitsSigns", spec := "bitsSigns", apart := false, narrowed := true }
def BitsSignsUptoSaid : Prop := bitsSignsUptoRow.holds Try.pinned (OpenSpec.upto bitsSignsSpec)

/-- 'mezzaninelaw01.BitsDrawn', WHERE WHAT IT READS IS OF BULK AT MOST 1048576: true; the input reads as it did. -/
def bitsDrawnUptoRow : OpenClaim := { program := "ytkcgihpnlekfnaa", sum := "71a88be096cac455a4b928993abae46e26d934d82e57bbeba74074abce86283b", func := "mezzanine/mezzaninelaw01.BitsDrawn", spec := "bitsDrawn", apart := false, narrowed := true }
def BitsDrawnUptoSaid : Prop := bitsDrawnUptoRow.holds Try.pinned (OpenSpec.upto bitsDrawnSpec)

/-- 'mezzaninelaw01.BitsPieces', WHERE WHAT IT READS IS OF BULK AT MOST 1048576: true; the input reads as it did. -/
def bitsPiecesUptoRow : OpenClaim := { program := "ytkcgihpnlekfnaa", sum := "71a88be096cac455a4b928993abae46e26d934d82e57bbeba74074abce86283b", func := "mezzanine/mezzaninelaw01.BitsPieces", spec := "bitsPieces", apart := false, narrowed := true }
def BitsPiecesUptoSaid : Prop := bitsPiecesUptoRow.holds Try.pinned (OpenSpec.upto bitsPiecesSpec)

/-- 'mezzaninelaw01.BitsBack', WHERE WHAT IT READS IS OF BULK AT MOST 1048576: true; the input reads as it did. -/
def bitsBackUptoRow : OpenClaim := { program := "ytkcgihpnlekfnaa", sum := "71a88be096cac455a4b928993abae46e26d934d82e57bbeba74074abce86283b", func := "mezzanine/mezzaninelaw01.BitsBack", spec := "bitsBack", apart := false, narrowed := true }
def BitsBackUptoSaid : Prop := bitsBackUptoRow.holds Try.pinned (OpenSpec.upto bitsBackSpec)

/-- 'mezzaninelaw01.BitsUps', WHERE WHAT IT READS IS OF BULK AT MOST 1048576: true; the input reads as it did. -/
def bitsUpsUptoRow : OpenClaim := { program := "ytkcgihpnlekfnaa", sum := "71a88be096cac455a4b928993abae46e26d934d82e57bbeba74074abce86283b", func := "mezzanine/mezzaninelaw01.BitsUps", spec := "bitsUps", apart := false, narrowed := true }
def BitsUpsUptoSaid : Prop := bitsUpsUptoRow.holds Try.pinned (OpenSpec.upto bitsUpsSpec)

end Rows
end Go.Proofs.Ytkcgihpnlekfnaa
