/-
  No cell of these rows narrows 'for every input' (looked for: loops, veiled, ifaces, maps, wideKeys, modest, calm, conditions, laid).
  DERIVED. THE GIVEN ROWS OF THIS SEAT. 6 by the template 'for every input the law returns true; each argument reads behind the call as it read before'; 0 by the template 'total and deterministic' (their statements: YtkolnfhaoklmaaaTotals.lean).
  GIVEN WITH THE SEED: the statements are not yours to turn. If you find one false, say at which input.
  Laid BY PROGRAM, IN A SANDBOX (cutbox-rows.mjs): the forced cells as the released guide's own fill.sh prints them over the translation 345a259e071122fa… (all of the seat's roots in one cut). By AI agents, Wed Nov 11 2026. No macro, syntax, notation, axiom, sorry.
-/
import Derived.Test.YtkolnfhaoklmaaaChecked
import GoSem.Claim
import GoSem.ClaimJoined
import GoSem.ClaimMapViews
import Derived.JoinedTies
import Derived.KernelRfl
namespace Go.Proofs.Ytkolnfhaoklmaaa
/- THE CELL 'sum', in the pinned program and in every row, IS THE sha256 OF THE DUMP (.gsa) THAT YtkolnfhaoklmaaaProg.lean LOADS. Nothing in Lean hashes anything: it is a label: what it is worth is what the hold of that sum in a sandbox is worth. -/
noncomputable def Try.pinned : Pinned := { name := "ytkolnfhaoklmaaa", sum := "345a259e071122fa718dc3b73722722c3692cf2468588f373c0c0ed999fcc540", checked := Try.checked }
namespace Rows
def none {H : Type} : Left H := { results := [], args := [] }

/-- 'mezzaninelaw08.FieldsCut': WHATEVER THE INPUT: true; the input reads as it did. -/
def fieldsCutSpec : ChangeSpec := { name := "fieldsCut", fn := fun _ => fun
  | [d1, d2, d3] => { results := [.lit (.bool true)], args := [d1, d2, d3] }
  | _ => none }
def fieldsCutRow : OpenClaim := { program := "ytkolnfhaoklmaaa", sum := "345a259e071122fa718dc3b73722722c3692cf2468588f373c0c0ed999fcc540", func := "mezzanine/mezzaninelaw08.FieldsCut", spec := "fieldsCut", apart := false }
def FieldsCutSaid : Prop := fieldsCutRow.holds Try.pinned (OpenSpec.ofChange fieldsCutSpec)

/-- ITS FALSE NEIGHBOUR: 'it returns false'. Refute it at one input. -/
def fieldsCutWrong : ChangeSpec := { name := "fieldsCut", fn := fun _ => fun
  | [d1, d2, d3] => { results := [.lit (.bool false)], args := [d1, d2, d3] }
  | _ => none }
def FieldsCutWrongFalsely : Prop := fieldsCutRow.holds Try.pinned (OpenSpec.ofChange fieldsCutWrong)

/-- 'mezzaninelaw08.FieldsNumbers': WHATEVER THE INPUT: true; the input reads as it did. -/
def fieldsNumbersSpec : ChangeSpec := { name := "fieldsNumbers", fn := fun _ => fun
  | [d1, d2] => { results := [.lit (.bool true)], args := [d1, d2] }
  | _ => none }
def fieldsNumbersRow : OpenClaim := { program := "ytkolnfhaoklmaaa", sum := "345a259e071122fa718dc3b73722722c3692cf2468588f373c0c0ed999fcc540", func := "mezzanine/mezzaninelaw08.FieldsNumbers", spec := "fieldsNumbers", apart := false }
def FieldsNumbersSaid : Prop := fieldsNumbersRow.holds Try.pinned (OpenSpec.ofChange fieldsNumbersSpec)

/-- ITS FALSE NEIGHBOUR: 'it returns false'. Refute it at one input. -/
def fieldsNumbersWrong : ChangeSpec := { name := "fieldsNumbers", fn := fun _ => fun
  | [d1, d2] => { results := [.lit (.bool false)], args := [d1, d2] }
  | _ => none }
def FieldsNumbersWrongFalsely : Prop := fieldsNumbersRow.holds Try.pinned (OpenSpec.ofChange fieldsNumbersWrong)

/-- 'mezzaninelaw08.FieldsOrder': WHATEVER THE INPUT: true; the input reads as it did. -/
def fieldsOrderSpec : ChangeSpec := { name := "fieldsOrder", fn := fun _ => fun
  | [d1, d2, d3] => { results := [.lit (.bool true)], args := [d1, d2, d3] }
  | _ => none }
def fieldsOrderRow : OpenClaim := { program := "ytkolnfhaoklmaaa", sum := "345a259e071122fa718dc3b73722722c3692cf2468588f373c0c0ed999fcc540", func := "mezzanine/mezzaninelaw08.FieldsOrder", spec := "fieldsOrder", apart := false }
def FieldsOrderSaid : Prop := fieldsOrderRow.holds Try.pinned (OpenSpec.ofChange fieldsOrderSpec)

/-- ITS FALSE NEIGHBOUR: 'it returns false'. Refute it at one input. -/
def fieldsOrderWrong : ChangeSpec := { name := "fieldsOrder", fn := fun _ => fun
  | [d1, d2, d3] => { results := [.lit (.bool false)], args := [d1, d2, d3] }
  | _ => none }
def FieldsOrderWrongFalsely : Prop := fieldsOrderRow.holds Try.pinned (OpenSpec.ofChange fieldsOrderWrong)

/-- 'mezzaninelaw08.FieldsWhole': WHATEVER THE INPUT: true; the input reads as it did. -/
def fieldsWholeSpec : ChangeSpec := { name := "fieldsWhole", fn := fun _ => fun
  | [d] => { results := [.lit (.bool true)], args := [d] }
  | _ => none }
def fieldsWholeRow : OpenClaim := { program := "ytkolnfhaoklmaaa", sum := "345a259e071122fa718dc3b73722722c3692cf2468588f373c0c0ed999fcc540", func := "mezzanine/mezzaninelaw08.FieldsWhole", spec := "fieldsWhole", apart := false }
def FieldsWholeSaid : Prop := fieldsWholeRow.holds Try.pinned (OpenSpec.ofChange fieldsWholeSpec)

/-- ITS FALSE NEIGHBOUR: 'it returns false'. Refute it at one input. -/
def fieldsWholeWrong : ChangeSpec := { name := "fieldsWhole", fn := fun _ => fun
  | [d] => { results := [.lit (.bool false)], args := [d] }
  | _ => none }
def FieldsWholeWrongFalsely : Prop := fieldsWholeRow.holds Try.pinned (OpenSpec.ofChange fieldsWholeWrong)

/-- 'mezzaninelaw08.FieldsPuts': WHATEVER THE INPUT: true; the input reads as it did. -/
def fieldsPutsSpec : ChangeSpec := { name := "fieldsPuts", fn := fun _ => fun
  | [d1, d2] => { results := [.lit (.bool true)], args := [d1, d2] }
  | _ => none }
def fieldsPutsRow : OpenClaim := { program := "ytkolnfhaoklmaaa", sum := "345a259e071122fa718dc3b73722722c3692cf2468588f373c0c0ed999fcc540", func := "mezzanine/mezzaninelaw08.FieldsPuts", spec := "fieldsPuts", apart := false }
def FieldsPutsSaid : Prop := fieldsPutsRow.holds Try.pinned (OpenSpec.ofChange fieldsPutsSpec)

/-- ITS FALSE NEIGHBOUR: 'it returns false'. Refute it at one input. -/
def fieldsPutsWrong : ChangeSpec := { name := "fieldsPuts", fn := fun _ => fun
  | [d1, d2] => { results := [.lit (.bool false)], args := [d1, d2] }
  | _ => none }
def FieldsPutsWrongFalsely : Prop := fieldsPutsRow.holds Try.pinned (OpenSpec.ofChange fieldsPutsWrong)

/-- 'mezzaninelaw08.FieldsBack': WHATEVER THE INPUT: true; the input reads as it did. -/
def fieldsBackSpec : ChangeSpec := { name := "fieldsBack", fn := fun _ => fun
  | [d1, d2, d3] => { results := [.lit (.bool true)], args := [d1, d2, d3] }
  | _ => none }
def fieldsBackRow : OpenClaim := { program := "ytkolnfhaoklmaaa", sum := "345a259e071122fa718dc3b73722722c3692cf2468588f373c0c0ed999fcc540", func := "mezzanine/mezzaninelaw08.FieldsBack", spec := "fieldsBack", apart := false }
def FieldsBackSaid : Prop := fieldsBackRow.holds Try.pinned (OpenSpec.ofChange fieldsBackSpec)

/-- ITS FALSE NEIGHBOUR: 'it returns false'. Refute it at one input. -/
def fieldsBackWrong : ChangeSpec := { name := "fieldsBack", fn := fun _ => fun
  | [d1, d2, d3] => { results := [.lit (.bool false)], args := [d1, d2, d3] }
  | _ => none }
def FieldsBackWrongFalsely : Prop := fieldsBackRow.holds Try.pinned (OpenSpec.ofChange fieldsBackWrong)

/- THE SECOND FORM. 'bulk': how many values and letters a reading holds, each counted each time it is reached (what is shared counts as often as it is met; a slice's spare places count too). A statement '..UptoSaid' is the law's where the arguments, and the package variables that the reading takes, are together of bulk at most 1048576: NARROWER than '..Said'. Prove '..Said' where nothing that the law and all that it calls make is longer than what came in: it says more and counts as full. Else prove '..UptoSaid'. A law counts once. -/
mutual
def uptoBulk {H : Type} : DataW H → Nat
  | .lit (.string bytes) => bytes.length + 1
  | .lit _ => 1
  | .nil => 1
  | .ptr d => uptoBulk d + 1
  | .slice elems spare => uptoBulkAll elems + uptoBulkAll spare + 1
  | .agg parts => uptoBulkAll parts + 1
  | .iface _ d => uptoBulk d + 1
  | .map entries => uptoBulkEntries entries + 1
  | .held _ => 1
def uptoBulkAll {H : Type} : List (DataW H) → Nat
  | [] => 0
  | d :: r => uptoBulk d + uptoBulkAll r
def uptoBulkEntries {H : Type} : List (Lit × DataW H) → Nat
  | [] => 0
  | x :: r => uptoBulkEntry x + uptoBulkEntries r
def uptoBulkEntry {H : Type} : Lit × DataW H → Nat
  | (.string bytes, d) => bytes.length + uptoBulk d + 1
  | (_, d) => uptoBulk d + 1
 end
def uptoSmall : (H : Type) → List (DataW H) → Bool := fun _ ds => decide (uptoBulkAll ds ≤ 1048576)
def OpenSpec.upto (s : _root_.Go.ChangeSpec) : _root_.Go.OpenSpec := { _root_.Go.OpenSpec.ofChange s with cond := some uptoSmall }

/-- 'mezzaninelaw08.FieldsCut', WHERE WHAT IT READS IS OF BULK AT MOST 1048576: true; the input reads as it did. -/
def fieldsCutUptoRow : OpenClaim := { program := "ytkolnfhaoklmaaa", sum := "345a259e071122fa718dc3b73722722c3692cf2468588f373c0c0ed999fcc540", func := "mezzanine/mezzaninelaw08.FieldsCut", spec := "fieldsCut", apart := false, narrowed := true }
def FieldsCutUptoSaid : Prop := fieldsCutUptoRow.holds Try.pinned (OpenSpec.upto fieldsCutSpec)

/-- 'mezzaninelaw08.FieldsNumbers', WHERE WHAT IT READS IS OF BULK AT MOST 1048576: true; the input reads as it did. -/
def fieldsNumbersUptoRow : OpenClaim := { program := "ytkolnfhaoklmaaa", sum := "345a259e071122fa718dc3b73722722c3692cf2468588f373c0c0ed999fcc540", func := "mezzanine/mezzaninelaw08.FieldsNumbers", spec := "fieldsNumbers", apart := false, narrowed := true }
def FieldsNumbersUptoSaid : Prop := fieldsNumbersUptoRow.holds Try.pinned (OpenSpec.upto fieldsNumbersSpec)

/-- 'mezzaninelaw08.FieldsOrder', WHERE WHAT IT READS IS OF BULK AT MOST 1048576: true; the input reads as it did. -/
def fieldsOrderUptoRow : OpenClaim := { program := "ytkolnfhaoklmaaa", sum := "345a259e071122fa718dc3b73722722c3692cf2468588f373c0c0ed999fcc540", func := "mezzanine/mezzaninelaw08.FieldsOrder", spec := "fieldsOrder", apart := false, narrowed := true }
def FieldsOrderUptoSaid : Prop := fieldsOrderUptoRow.holds Try.pinned (OpenSpec.upto fieldsOrderSpec)

/-- 'mezzaninelaw08.FieldsWhole', WHERE WHAT IT READS IS OF BULK AT MOST 1048576: true; the input reads as it did. -/
def fieldsWholeUptoRow : OpenClaim := { program := "ytkolnfhaoklmaaa", sum := "345a259e071122fa718dc3b73722722c3692cf2468588f373c0c0ed999fcc540", func := "mezzanine/mezzaninelaw08.FieldsWhole", spec := "fieldsWhole", apart := false, narrowed := true }
def FieldsWholeUptoSaid : Prop := fieldsWholeUptoRow.holds Try.pinned (OpenSpec.upto fieldsWholeSpec)

/-- 'mezzaninelaw08.FieldsPuts', WHERE WHAT IT READS IS OF BULK AT MOST 1048576: true; the input reads as it did. -/
def fieldsPutsUptoRow : OpenClaim := { program := "ytkolnfhaoklmaaa", sum := "345a259e071122fa718dc3b73722722c3692cf2468588f373c0c0ed999fcc540", func := "mezzanine/mezzaninelaw08.FieldsPuts", spec := "fieldsPuts", apart := false, narrowed := true }
def FieldsPutsUptoSaid : Prop := fieldsPutsUptoRow.holds Try.pinned (OpenSpec.upto fieldsPutsSpec)

/-- 'mezzaninelaw08.FieldsBack', WHERE WHAT IT READS IS OF BULK AT MOST 1048576: true; the input reads as it did. -/
def fieldsBackUptoRow : OpenClaim := { program := "ytkolnfhaoklmaaa", sum := "345a259e071122fa718dc3b73722722c3692cf2468588f373c0c0ed999fcc540", func := "mezzanine/mezzaninelaw08.FieldsBack", spec := "fieldsBack", apart := false, narrowed := true }
def FieldsBackUptoSaid : Prop := fieldsBackUptoRow.holds Try.pinned (OpenSpec.upto fieldsBackSpec)

end Rows
end Go.Proofs.Ytkolnfhaoklmaaa
