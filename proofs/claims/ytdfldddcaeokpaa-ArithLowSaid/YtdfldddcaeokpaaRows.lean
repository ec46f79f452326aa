/-
  No cell of these rows narrows 'for every input' (looked for: loops, veiled, ifaces, maps, wideKeys, modest, calm, conditions, laid).
  DERIVED. THE GIVEN ROWS OF THIS SEAT. 8 by the template 'for every input the law returns true; each argument reads behind the call as it read before'; 0 by the template 'total and deterministic' (their statements: YtdfldddcaeokpaaTotals.lean).
  GIVEN WITH THE SEED: the statements are not yours to turn. If you find one false, say at which input.
  Laid BY PROGRAM, IN A SANDBOX (cutbox-rows.mjs): the forced cells as the released guide's own fill.sh prints them over the translation 7f3a9f1fd21dcd3f… (all of the seat's roots in one cut). By AI agents, Wed Nov 11 2026. No macro, syntax, notation, axiom, sorry.
-/
import Derived.Test.YtdfldddcaeokpaaChecked
import GoSem.Claim
import GoSem.ClaimJoined
import GoSem.ClaimMapViews
import Derived.JoinedTies
import Derived.KernelRfl
namespace Go.Proofs.Ytdfldddcaeokpaa
/- THE CELL 'sum', in the pinned program and in every row, IS THE sha256 OF THE DUMP (.gsa) THAT YtdfldddcaeokpaaProg.lean LOADS. Nothing in Lean hashes anything: it is a label: what it is worth is what the hold of that sum in a sandbox is worth. -/
noncomputable def Try.pinned : Pinned := { name := "ytdfldddcaeokpaa", sum := "7f3a9f1fd21dcd3ff019881b8b0f93637d758db9839a7fe10f43e6f8829bcdb3", checked := Try.checked }
namespace Rows
def none {H : Type} : Left H := { results := [], args := [] }

/-- 'mezzaninelaw02.ArithHighs': WHATEVER THE INPUT: true; the input reads as it did. -/
def arithHighsSpec : ChangeSpec := { name := "arithHighs", fn := fun _ => fun
  | [d1, d2, d3] => { results := [.lit (.bool true)], args := [d1, d2, d3] }
  | _ => none }
def arithHighsRow : OpenClaim := { program := "ytdfldddcaeokpaa", sum := "7f3a9f1fd21dcd3ff019881b8b0f93637d758db9839a7fe10f43e6f8829bcdb3", func := "mezzanine/mezzaninelaw02.ArithHighs", spec := "arithHighs", apart := false }
def ArithHighsSaid : Prop := arithHighsRow.holds Try.pinned (OpenSpec.ofChange arithHighsSpec)

/-- ITS FALSE NEIGHBOUR: 'it returns false'. Refute it at one input. -/
def arithHighsWrong : ChangeSpec := { name := "arithHighs", fn := fun _ => fun
  | [d1, d2, d3] => { results := [.lit (.bool false)], args := [d1, d2, d3] }
  | _ => none }
def ArithHighsWrongFalsely : Prop := arithHighsRow.holds Try.pinned (OpenSpec.ofChange arithHighsWrong)

/-- 'mezzaninelaw02.ArithProducts': WHATEVER THE INPUT: true; the input reads as it did. -/
def arithProductsSpec : ChangeSpec := { name := "arithProducts", fn := fun _ => fun
  | [d1, d2] => { results := [.lit (.bool true)], args := [d1, d2] }
  | _ => none }
def arithProductsRow : OpenClaim := { program := "ytdfldddcaeokpaa", sum := "7f3a9f1fd21dcd3ff019881b8b0f93637d758db9839a7fe10f43e6f8829bcdb3", func := "mezzanine/mezzaninelaw02.ArithProducts", spec := "arithProducts", apart := false }
def ArithProductsSaid : Prop := arithProductsRow.holds Try.pinned (OpenSpec.ofChange arithProductsSpec)

/-- ITS FALSE NEIGHBOUR: 'it returns false'. Refute it at one input. -/
def arithProductsWrong : ChangeSpec := { name := "arithProducts", fn := fun _ => fun
  | [d1, d2] => { results := [.lit (.bool false)], args := [d1, d2] }
  | _ => none }
def ArithProductsWrongFalsely : Prop := arithProductsRow.holds Try.pinned (OpenSpec.ofChange arithProductsWrong)

/-- 'mezzaninelaw02.ArithQuotients': WHATEVER THE INPUT: true; the input reads as it did. -/
def arithQuotientsSpec : ChangeSpec := { name := "arithQuotients", fn := fun _ => fun
  | [d1, d2] => { results := [.lit (.bool true)], args := [d1, d2] }
  | _ => none }
def arithQuotientsRow : OpenClaim := { program := "ytdfldddcaeokpaa", sum := "7f3a9f1fd21dcd3ff019881b8b0f93637d758db9839a7fe10f43e6f8829bcdb3", func := "mezzanine/mezzaninelaw02.ArithQuotients", spec := "arithQuotients", apart := false }
def ArithQuotientsSaid : Prop := arithQuotientsRow.holds Try.pinned (OpenSpec.ofChange arithQuotientsSpec)

/-- ITS FALSE NEIGHBOUR: 'it returns false'. Refute it at one input. -/
def arithQuotientsWrong : ChangeSpec := { name := "arithQuotients", fn := fun _ => fun
  | [d1, d2] => { results := [.lit (.bool false)], args := [d1, d2] }
  | _ => none }
def ArithQuotientsWrongFalsely : Prop := arithQuotientsRow.holds Try.pinned (OpenSpec.ofChange arithQuotientsWrong)

/-- 'mezzaninelaw02.ArithHalves': WHATEVER THE INPUT: true; the input reads as it did. -/
def arithHalvesSpec : ChangeSpec := { name := "arithHalves", fn := fun _ => fun
  | [d1, d2] => { results := [.lit (.bool true)], args := [d1, d2] }
  | _ => none }
def arithHalvesRow : OpenClaim := { program := "ytdfldddcaeokpaa", sum := "7f3a9f1fd21dcd3ff019881b8b0f93637d758db9839a7fe10f43e6f8829bcdb3", func := "mezzanine/mezzaninelaw02.ArithHalves", spec := "arithHalves", apart := false }
def ArithHalvesSaid : Prop := arithHalvesRow.holds Try.pinned (OpenSpec.ofChange arithHalvesSpec)

/-- ITS FALSE NEIGHBOUR: 'it returns false'. Refute it at one input. -/
def arithHalvesWrong : ChangeSpec := { name := "arithHalves", fn := fun _ => fun
  | [d1, d2] => { results := [.lit (.bool false)], args := [d1, d2] }
  | _ => none }
def ArithHalvesWrongFalsely : Prop := arithHalvesRow.holds Try.pinned (OpenSpec.ofChange arithHalvesWrong)

/-- 'mezzaninelaw02.ArithRests': WHATEVER THE INPUT: true; the input reads as it did. -/
def arithRestsSpec : ChangeSpec := { name := "arithRests", fn := fun _ => fun
  | [d1, d2] => { results := [.lit (.bool true)], args := [d1, d2] }
  | _ => none }
def arithRestsRow : OpenClaim := { program := "ytdfldddcaeokpaa", sum := "7f3a9f1fd21dcd3ff019881b8b0f93637d758db9839a7fe10f43e6f8829bcdb3", func := "mezzanine/mezzaninelaw02.ArithRests", spec := "arithRests", apart := false }
def ArithRestsSaid : Prop := arithRestsRow.holds Try.pinned (OpenSpec.ofChange arithRestsSpec)

/-- ITS FALSE NEIGHBOUR: 'it returns false'. Refute it at one input. -/
def arithRestsWrong : ChangeSpec := { name := "arithRests", fn := fun _ => fun
  | [d1, d2] => { results := [.lit (.bool false)], args := [d1, d2] }
  | _ => none }
def ArithRestsWrongFalsely : Prop := arithRestsRow.holds Try.pinned (OpenSpec.ofChange arithRestsWrong)

/-- 'mezzaninelaw02.ArithKnown': WHATEVER THE INPUT: true; the input reads as it did. -/
def arithKnownSpec : ChangeSpec := { name := "arithKnown", fn := fun _ => fun
  | [] => { results := [.lit (.bool true)], args := [] }
  | _ => none }
def arithKnownRow : OpenClaim := { program := "ytdfldddcaeokpaa", sum := "7f3a9f1fd21dcd3ff019881b8b0f93637d758db9839a7fe10f43e6f8829bcdb3", func := "mezzanine/mezzaninelaw02.ArithKnown", spec := "arithKnown", unfollowed := true, recurses := true, apart := false }
def ArithKnownSaid : Prop := arithKnownRow.holds Try.pinned (OpenSpec.ofChange arithKnownSpec)

/-- ITS FALSE NEIGHBOUR: 'it returns false'. Refute it at one input. -/
def arithKnownWrong : ChangeSpec := { name := "arithKnown", fn := fun _ => fun
  | [] => { results := [.lit (.bool false)], args := [] }
  | _ => none }
def ArithKnownWrongFalsely : Prop := arithKnownRow.holds Try.pinned (OpenSpec.ofChange arithKnownWrong)

/-- 'mezzaninelaw02.ArithDoes': WHATEVER THE INPUT: true; the input reads as it did. -/
def arithDoesSpec : ChangeSpec := { name := "arithDoes", fn := fun _ => fun
  | [d1, d2, d3, d4] => { results := [.lit (.bool true)], args := [d1, d2, d3, d4] }
  | _ => none }
def arithDoesRow : OpenClaim := { program := "ytdfldddcaeokpaa", sum := "7f3a9f1fd21dcd3ff019881b8b0f93637d758db9839a7fe10f43e6f8829bcdb3", func := "mezzanine/mezzaninelaw02.ArithDoes", spec := "arithDoes", unfollowed := true, recurses := true, apart := false }
def ArithDoesSaid : Prop := arithDoesRow.holds Try.pinned (OpenSpec.ofChange arithDoesSpec)

/-- ITS FALSE NEIGHBOUR: 'it returns false'. Refute it at one input. -/
def arithDoesWrong : ChangeSpec := { name := "arithDoes", fn := fun _ => fun
  | [d1, d2, d3, d4] => { results := [.lit (.bool false)], args := [d1, d2, d3, d4] }
  | _ => none }
def ArithDoesWrongFalsely : Prop := arithDoesRow.holds Try.pinned (OpenSpec.ofChange arithDoesWrong)

/-- 'mezzaninelaw02.ArithLow': WHATEVER THE INPUT: true; the input reads as it did. -/
def arithLowSpec : ChangeSpec := { name := "arithLow", fn := fun _ => fun
  | [d1, d2, d3, d4] => { results := [.lit (.bool true)], args := [d1, d2, d3, d4] }
  | _ => none }
def arithLowRow : OpenClaim := { program := "ytdfldddcaeokpaa", sum := "7f3a9f1fd21dcd3ff019881b8b0f93637d758db9839a7fe10f43e6f8829bcdb3", func := "mezzanine/mezzaninelaw02.ArithLow", spec := "arithLow", unfollowed := true, recurses := true, apart := false }
def ArithLowSaid : Prop := arithLowRow.holds Try.pinned (OpenSpec.ofChange arithLowSpec)

/-- ITS FALSE NEIGHBOUR: 'it returns false'. Refute it at one input. -/
def arithLowWrong : ChangeSpec := { name := "arithLow", fn := fun _ => fun
  | [d1, d2, d3, d4] => { results := [.lit (.bool false)], args := [d1, d2, d3, d4] }
  | _ => none }
def ArithLowWrongFalsely : Prop := arithLowRow.holds Try.pinned (OpenSpec.ofChange arithLowWrong)

/- THE SECOND FORM. 'bulk': how many values and letters a reading holds, each counted each time it is reached (what is shared counts as often as it is met; a slice's spare places count too). A statement '..UptoSaid' is the law's where the arguments, and the package variables that the reading takes, are together of bulk at most 1048576: NARROWER than '..Said'. Prove '..Said' where nothing that the law and all that it calls make is longer than what came in: it says more and counts as full. Else prove '..UptoSaid'. A law counts once. -/
mutual
def uptoBulk {H : Type} : DataW H → Nat
  | .lit (.string bytes) => bytes.length + 1
  | .lit _ => 1
  | .nil => 1
  | .ptr d => uptoBulk d + 1
  | .slice elems spare => uptoBulkAll elems + uptoBulkAll spare + 1
  | .agg parts => uptoBulkAll parts + 1
  | .iface _ d => uptoBulk d + 1
  | .map entries => uptoBulkEntries entries + 1
  | .held _ => 1
def uptoBulkAll {H : Type} : List (DataW H) → Nat
  | [] => 0
  | d :: r => uptoBulk d + uptoBulkAll r
def uptoBulkEntries {H : Type} : List (Lit × DataW H) → Nat
  | [] => 0
  | x :: r => uptoBulkEntry x + uptoBulkEntries r
def uptoBulkEntry {H : Type} : Lit × DataW H → Nat
  | (.string bytes, d) => bytes.length + uptoBulk d + 1
  | (_, d) => uptoBulk d + 1
 end
def uptoSmall : (H : Type) → List (DataW H) → Bool := fun _ ds => decide (uptoBulkAll ds ≤ 1048576)
def OpenSpec.upto (s : _root_.Go.ChangeSpec) : _root_.Go.OpenSpec := { _root_.Go.OpenSpec.ofChange s with cond := some uptoSmall }

/-- 'mezzaninelaw02.ArithHighs', WHERE WHAT IT READS IS OF BULK AT MOST 1048576: true; the input reads as it did. -/
def arithHighsUptoRow : OpenClaim := { program := "ytdfldddcaeokpaa", sum := "7f3a9f1fd21dcd3ff019881b8b0f93637d758db9839a7fe10f43e6f8829bcdb3", func := "mezzanine/mezzaninelaw02.ArithHighs", spec := "arithHighs", apart := false, narrowed := true }
def ArithHighsUptoSaid : Prop := arithHighsUptoRow.holds Try.pinned (OpenSpec.upto arithHighsSpec)

/-- 'mezzaninelaw02.ArithProducts', WHERE WHAT IT READS IS OF BULK AT MOST 1048576: true; the input reads as it did. -/
def arithProductsUptoRow : OpenClaim := { program := "ytdfldddcaeokpaa", sum := "7f3a9f1fd21dcd3ff019881b8b0f93637d758db9839a7fe10f43e6f8829bcdb3", func := "mezzanine/mezzaninelaw02.ArithProducts", spec := "arithProducts", apart := false, narrowed := true }
def ArithProductsUptoSaid : Prop := arithProductsUptoRow.holds Try.pinned (OpenSpec.upto arithProductsSpec)

/-- 'mezzaninelaw02.ArithQuotients', WHERE WHAT IT READS IS OF BULK AT MOST 1048576: true; the input reads as it did. -/
def arithQuotientsUptoRow : OpenClaim := { program := "ytdfldddcaeokpaa", sum := "7f3a9f1fd21dcd3ff019881b8b0f93637d758db9839a7fe10f43e6f8829bcdb3", func := "mezzanine/mezzaninelaw02.ArithQuotients", spec := "arithQuotients", apart := false, narrowed := true }
def ArithQuotientsUptoSaid : Prop := arithQuotientsUptoRow.holds Try.pinned (OpenSpec.upto arithQuotientsSpec)

/-- 'mezzaninelaw02.ArithHalves', WHERE WHAT IT READS IS OF BULK AT MOST 1048576: true; the input reads as it did. -/
def arithHalvesUptoRow : OpenClaim := { program := "ytdfldddcaeokpaa", sum := "7f3a9f1fd21dcd3ff019881b8b0f93637d758db9839a7fe10f43e6f8829bcdb3", func := "mezzanine/mezzaninelaw02.ArithHalves", spec := "arithHalves", apart := false, narrowed := true }
def ArithHalvesUptoSaid : Prop := arithHalvesUptoRow.holds Try.pinned (OpenSpec.upto arithHalvesSpec)

/-- 'mezzaninelaw02.ArithRests', WHERE WHAT IT READS IS OF BULK AT MOST 1048576: true; the input reads as it did. -/
def arithRestsUptoRow : OpenClaim := { program := "ytdfldddcaeokpaa", sum := "7f3a9f1fd21dcd3ff019881b8b0f93637d758db9839a7fe10f43e6f8829bcdb3", func := "mezzanine/mezzaninelaw02.ArithRests", spec := "arithRests", apart := false, narrowed := true }
def ArithRestsUptoSaid : Prop := arithRestsUptoRow.holds Try.pinned (OpenSpec.upto arithRestsSpec)

/-- 'mezzaninelaw02.ArithKnown', WHERE WHAT IT READS IS OF BULK AT MOST 1048576: true; the input reads as it did. -/
def arithKnownUptoRow : OpenClaim := { program := "ytdfldddcaeokpaa", sum := "7f3a9f1fd21dcd3ff019881b8b0f93637d758db9839a7fe10f43e6f8829bcdb3", func := "mezzanine/mezzaninelaw02.ArithKnown", spec := "arithKnown", unfollowed := true, recurses := true, apart := false, narrowed := true }
def ArithKnownUptoSaid : Prop := arithKnownUptoRow.holds Try.pinned (OpenSpec.upto arithKnownSpec)

/-- 'mezzaninelaw02.ArithDoes', WHERE WHAT IT READS IS OF BULK AT MOST 1048576: true; the input reads as it did. -/
def arithDoesUptoRow : OpenClaim := { program := "ytdfldddcaeokpaa", sum := "7f3a9f1fd21dcd3ff019881b8b0f93637d758db9839a7fe10f43e6f8829bcdb3", func := "mezzanine/mezzaninelaw02.ArithDoes", spec := "arithDoes", unfollowed := true, recurses := true, apart := false, narrowed := true }
def ArithDoesUptoSaid : Prop := arithDoesUptoRow.holds Try.pinned (OpenSpec.upto arithDoesSpec)

/-- 'mezzaninelaw02.ArithLow', WHERE WHAT IT READS IS OF BULK AT MOST 1048576: true; the input reads as it did. -/
def arithLowUptoRow : OpenClaim := { program := "ytdfldddcaeokpaa", sum := "7f3a9f1fd21dcd3ff019881b8b0f93637d758db9839a7fe10f43e6f8829bcdb3", func := "mezzanine/mezzaninelaw02.ArithLow", spec := "arithLow", unfollowed := true, recurses := true, apart := false, narrowed := true }
def ArithLowUptoSaid : Prop := arithLowUptoRow.holds Try.pinned (OpenSpec.upto arithLowSpec)

end Rows
end Go.Proofs.Ytdfldddcaeokpaa
