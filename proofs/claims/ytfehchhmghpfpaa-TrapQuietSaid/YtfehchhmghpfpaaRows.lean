/-
  No cell of these rows narrows 'for every input' (looked for: loops, veiled, ifaces, maps, wideKeys, modest, calm, conditions, laid).
  DERIVED. THE GIVEN ROWS OF THIS SEAT. 3 by the template 'for every input the law returns true; each argument reads behind the call as it read before'; 0 by the template 'total and deterministic' (their statements: YtfehchhmghpfpaaTotals.lean).
  GIVEN WITH THE SEED: the statements are not yours to turn. If you find one false, say at which input.
  Laid BY PROGRAM, IN A SANDBOX (cutbox-rows.mjs): the forced cells as the released guide's own fill.sh prints them over the translation da6f78e0118a6fd7… (all of the seat's roots in one cut). By AI agents, Wed Nov 11 2026. No macro, syntax, notation, axiom, sorry.
-/
import Derived.Test.YtfehchhmghpfpaaChecked
import GoSem.Claim
import GoSem.ClaimJoined
import GoSem.ClaimMapViews
import Derived.JoinedTies
import Derived.KernelRfl
namespace Go.Proofs.Ytfehchhmghpfpaa
/- THE CELL 'sum', in the pinned program and in every row, IS THE sha256 OF THE DUMP (.gsa) THAT YtfehchhmghpfpaaProg.lean LOADS. Nothing in Lean hashes anything: it is a label: what it is worth is what the hold of that sum in a sandbox is worth. -/
noncomputable def Try.pinned : Pinned := { name := "ytfehchhmghpfpaa", sum := "da6f78e0118a6fd79353266c8a3fa5042dfe2b545068f6d6fa367d4bc4eddaf2", checked := Try.checked }
namespace Rows
def none {H : Type} : Left H := { results := [], args := [] }

/-- 'mezzaninelaw14.TrapEnters': WHATEVER THE INPUT: true; the input reads as it did. -/
def trapEntersSpec : ChangeSpec := { name := "trapEnters", fn := fun _ => fun
  | [d1, d2] => { results := [.lit (.bool true)], args := [d1, d2] }
  | _ => none }
def trapEntersRow : OpenClaim := { program := "ytfehchhmghpfpaa", sum := "da6f78e0118a6fd79353266c8a3fa5042dfe2b545068f6d6fa367d4bc4eddaf2", func := "mezzanine/mezzaninelaw14.TrapEnters", spec := "trapEnters", apart := false }
def TrapEntersSaid : Prop := trapEntersRow.holds Try.pinned (OpenSpec.ofChange trapEntersSpec)

/-- ITS FALSE NEIGHBOUR: 'it returns false'. Refute it at one input. -/
def trapEntersWrong : ChangeSpec := { name := "trapEnters", fn := fun _ => fun
  | [d1, d2] => { results := [.lit (.bool false)], args := [d1, d2] }
  | _ => none }
def TrapEntersWrongFalsely : Prop := trapEntersRow.holds Try.pinned (OpenSpec.ofChange trapEntersWrong)

/-- 'mezzaninelaw14.TrapQuiet': WHATEVER THE INPUT: true; the input reads as it did. -/
def trapQuietSpec : ChangeSpec := { name := "trapQuiet", fn := fun _ => fun
  | [d1, d2] => { results := [.lit (.bool true)], args := [d1, d2] }
  | _ => none }
def trapQuietRow : OpenClaim := { program := "ytfehchhmghpfpaa", sum := "da6f78e0118a6fd79353266c8a3fa5042dfe2b545068f6d6fa367d4bc4eddaf2", func := "mezzanine/mezzaninelaw14.TrapQuiet", spec := "trapQuiet", apart := false }
def TrapQuietSaid : Prop := trapQuietRow.holds Try.pinned (OpenSpec.ofChange trapQuietSpec)

/-- ITS FALSE NEIGHBOUR: 'it returns false'. Refute it at one input. -/
def trapQuietWrong : ChangeSpec := { name := "trapQuiet", fn := fun _ => fun
  | [d1, d2] => { results := [.lit (.bool false)], args := [d1, d2] }
  | _ => none }
def TrapQuietWrongFalsely : Prop := trapQuietRow.holds Try.pinned (OpenSpec.ofChange trapQuietWrong)

/-- 'mezzaninelaw14.TrapReturns': WHATEVER THE INPUT: true; the input reads as it did. -/
def trapReturnsSpec : ChangeSpec := { name := "trapReturns", fn := fun _ => fun
  | [d] => { results := [.lit (.bool true)], args := [d] }
  | _ => none }
def trapReturnsRow : OpenClaim := { program := "ytfehchhmghpfpaa", sum := "da6f78e0118a6fd79353266c8a3fa5042dfe2b545068f6d6fa367d4bc4eddaf2", func := "mezzanine/mezzaninelaw14.TrapReturns", spec := "trapReturns", apart := false }
def TrapReturnsSaid : Prop := trapReturnsRow.holds Try.pinned (OpenSpec.ofChange trapReturnsSpec)

/-- ITS FALSE NEIGHBOUR: 'it returns false'. Refute it at one input. -/
def trapReturnsWrong : ChangeSpec := { name := "trapReturns", fn := fun _ => fun
  | [d] => { results := [.lit (.bool false)], args := [d] }
  | _ => none }
def TrapReturnsWrongFalsely : Prop := trapReturnsRow.holds Try.pinned (OpenSpec.ofChange trapReturnsWrong)

/- THE SECOND FORM. 'bulk': how many values and letters a reading holds, each counted each time it is reached (what is shared counts as often as it is met; a slice's spare places count too). A statement '..UptoSaid' is the law's where the arguments, and the package variables that the reading takes, are together of bulk at most 1048576: NARROWER than '..Said'. Prove '..Said' where nothing that the law and all that it calls make is longer than what came in: it says more and counts as full. Else prove '..UptoSaid'. A law counts once. -/
mutual
def uptoBulk {H : Type} : DataW H → Nat
  | .lit (.string bytes) => bytes.length + 1
  | .lit _ => 1
  | .nil => 1
  | .ptr d => uptoBulk d + 1
  | .slice elems spare => uptoBulkAll elems + uptoBulkAll spare + 1
  | .agg parts => uptoBulkAll parts + 1
  | .iface _ d => uptoBulk d + 1
  | .map entries => uptoBulkEntries entries + 1
  | .held _ => 1
def uptoBulkAll {H : Type} : List (DataW H) → Nat
  | [] => 0
  | d :: r => uptoBulk d + uptoBulkAll r
def uptoBulkEntries {H : Type} : List (Lit × DataW H) → Nat
  | [] => 0
  | x :: r => uptoBulkEntry x + uptoBulkEntries r
def uptoBulkEntry {H : Type} : Lit × DataW H → Nat
  | (.string bytes, d) => bytes.length + uptoBulk d + 1
  | (_, d) => uptoBulk d + 1
 end
def uptoSmall : (H : Type) → List (DataW H) → Bool := fun _ ds => decide (uptoBulkAll ds ≤ 1048576)
def OpenSpec.upto (s : _root_.Go.ChangeSpec) : _root_.Go.OpenSpec := { _root_.Go.OpenSpec.ofChange s with cond := some uptoSmall }

/-- 'mezzaninelaw14.TrapEnters', WHERE WHAT IT READS IS OF BULK AT MOST 1048576: true; the input reads as it did. -/
def trapEntersUptoRow : OpenClaim := { program := "ytfehchhmghpfpaa", sum := "da6f78e0118a6fd79353266c8a3fa5042dfe2b545068f6d6fa367d4bc4eddaf2", func := "mezzanine/mezzaninelaw14.TrapEnters", spec := "trapEnters", apart := false, narrowed := true }
def TrapEntersUptoSaid : Prop := trapEntersUptoRow.holds Try.pinned (OpenSpec.upto trapEntersSpec)

/-- 'mezzaninelaw14.TrapQuiet', WHERE WHAT IT READS IS OF BULK AT MOST 1048576: true; the input reads as it did. -/
def trapQuietUptoRow : OpenClaim := { program := "ytfehchhmghpfpaa", sum := "da6f78e0118a6fd79353266c8a3fa5042dfe2b545068f6d6fa367d4bc4eddaf2", func := "mezzanine/mezzaninelaw14.TrapQuiet", spec := "trapQuiet", apart := false, narrowed := true }
def TrapQuietUptoSaid : Prop := trapQuietUptoRow.holds Try.pinned (OpenSpec.upto trapQuietSpec)

/-- 'mezzaninelaw14.TrapReturns', WHERE WHAT IT READS IS OF BULK AT MOST 1048576: true; the input reads as it did. -/
def trapReturnsUptoRow : OpenClaim := { program := "ytfehchhmghpfpaa", sum := "da6f78e0118a6fd79353266c8a3fa5042dfe2b545068f6d6fa367d4bc4eddaf2", func := "mezzanine/mezzaninelaw14.TrapReturns", spec := "trapReturns", apart := false, narrowed := true }
def TrapReturnsUptoSaid : Prop := trapReturnsUptoRow.holds Try.pinned (OpenSpec.upto trapReturnsSpec)

end Rows
end Go.Proofs.Ytfehchhmghpfpaa
