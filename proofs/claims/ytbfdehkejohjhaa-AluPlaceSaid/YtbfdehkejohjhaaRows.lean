/-
  No cell of these rows narrows 'for every input' (looked for: loops, veiled, ifaces, maps, wideKeys, modest, calm, conditions, laid).
  DERIVED. THE GIVEN ROWS OF THIS SEAT. 6 by the template 'for every input the law returns true; each argument reads behind the call as it read before'; 0 by the template 'total and deterministic' (their statements: YtbfdehkejohjhaaTotals.lean).
  GIVEN WITH THE SEED: the statements are not yours to turn. If you find one false, say at which input.
  Laid BY PROGRAM, IN A SANDBOX (cutbox-rows.mjs): the forced cells as the released guide's own fill.sh prints them over the translation a0bdb200d2241834… (all of the seat's roots in one cut). By AI agents, Wed Nov 11 2026. No macro, syntax, notation, axiom, sorry.
-/
import Derived.Test.YtbfdehkejohjhaaChecked
import GoSem.Claim
import GoSem.ClaimJoined
import GoSem.ClaimMapViews
import Derived.JoinedTies
import Derived.KernelRfl
namespace Go.Proofs.Ytbfdehkejohjhaa
/- THE CELL 'sum', in the pinned program and in every row, IS THE sha256 OF THE DUMP (.gsa) THAT YtbfdehkejohjhaaProg.lean LOADS. Nothing in Lean hashes anything: it is a label: what it is worth is what the hold of that sum in a sandbox is worth. -/
noncomputable def Try.pinned : Pinned := { name := "ytbfdehkejohjhaa", sum := "a0bdb200d2241834e719ccc567d6fc167fb44e3eb61482774c3f40bfd3da3e12", checked := Try.checked }
namespace Rows
def none {H : Type} : Left H := { results := [], args := [] }

/-- 'mezzaninelaw21.AluValues': WHATEVER THE INPUT: true; the input reads as it did. -/
def aluValuesSpec : ChangeSpec := { name := "aluValues", fn := fun _ => fun
  | [d1, d2, d3, d4] => { results := [.lit (.bool true)], args := [d1, d2, d3, d4] }
  | _ => none }
def aluValuesRow : OpenClaim := { program := "ytbfdehkejohjhaa", sum := "a0bdb200d2241834e719ccc567d6fc167fb44e3eb61482774c3f40bfd3da3e12", func := "mezzanine/mezzaninelaw21.AluValues", spec := "aluValues", unfollowed := true, recurses := true, apart := false }
def AluValuesSaid : Prop := aluValuesRow.holds Try.pinned (OpenSpec.ofChange aluValuesSpec)

/-- ITS FALSE NEIGHBOUR: 'it returns false'. Refute it at one input. -/
def aluValuesWrong : ChangeSpec := { name := "aluValues", fn := fun _ => fun
  | [d1, d2, d3, d4] => { results := [.lit (.bool false)], args := [d1, d2, d3, d4] }
  | _ => none }
def AluValuesWrongFalsely : Prop := aluValuesRow.holds Try.pinned (OpenSpec.ofChange aluValuesWrong)

/-- 'mezzaninelaw21.AluJumps': WHATEVER THE INPUT: true; the input reads as it did. -/
def aluJumpsSpec : ChangeSpec := { name := "aluJumps", fn := fun _ => fun
  | [d1, d2, d3, d4] => { results := [.lit (.bool true)], args := [d1, d2, d3, d4] }
  | _ => none }
def aluJumpsRow : OpenClaim := { program := "ytbfdehkejohjhaa", sum := "a0bdb200d2241834e719ccc567d6fc167fb44e3eb61482774c3f40bfd3da3e12", func := "mezzanine/mezzaninelaw21.AluJumps", spec := "aluJumps", unfollowed := true, recurses := true, apart := false }
def AluJumpsSaid : Prop := aluJumpsRow.holds Try.pinned (OpenSpec.ofChange aluJumpsSpec)

/-- ITS FALSE NEIGHBOUR: 'it returns false'. Refute it at one input. -/
def aluJumpsWrong : ChangeSpec := { name := "aluJumps", fn := fun _ => fun
  | [d1, d2, d3, d4] => { results := [.lit (.bool false)], args := [d1, d2, d3, d4] }
  | _ => none }
def AluJumpsWrongFalsely : Prop := aluJumpsRow.holds Try.pinned (OpenSpec.ofChange aluJumpsWrong)

/-- 'mezzaninelaw21.AluPairs': WHATEVER THE INPUT: true; the input reads as it did. -/
def aluPairsSpec : ChangeSpec := { name := "aluPairs", fn := fun _ => fun
  | [d1, d2] => { results := [.lit (.bool true)], args := [d1, d2] }
  | _ => none }
def aluPairsRow : OpenClaim := { program := "ytbfdehkejohjhaa", sum := "a0bdb200d2241834e719ccc567d6fc167fb44e3eb61482774c3f40bfd3da3e12", func := "mezzanine/mezzaninelaw21.AluPairs", spec := "aluPairs", unfollowed := true, recurses := true, apart := false }
def AluPairsSaid : Prop := aluPairsRow.holds Try.pinned (OpenSpec.ofChange aluPairsSpec)

/-- ITS FALSE NEIGHBOUR: 'it returns false'. Refute it at one input. -/
def aluPairsWrong : ChangeSpec := { name := "aluPairs", fn := fun _ => fun
  | [d1, d2] => { results := [.lit (.bool false)], args := [d1, d2] }
  | _ => none }
def AluPairsWrongFalsely : Prop := aluPairsRow.holds Try.pinned (OpenSpec.ofChange aluPairsWrong)

/-- 'mezzaninelaw21.AluShifts': WHATEVER THE INPUT: true; the input reads as it did. -/
def aluShiftsSpec : ChangeSpec := { name := "aluShifts", fn := fun _ => fun
  | [d1, d2] => { results := [.lit (.bool true)], args := [d1, d2] }
  | _ => none }
def aluShiftsRow : OpenClaim := { program := "ytbfdehkejohjhaa", sum := "a0bdb200d2241834e719ccc567d6fc167fb44e3eb61482774c3f40bfd3da3e12", func := "mezzanine/mezzaninelaw21.AluShifts", spec := "aluShifts", unfollowed := true, recurses := true, apart := false }
def AluShiftsSaid : Prop := aluShiftsRow.holds Try.pinned (OpenSpec.ofChange aluShiftsSpec)

/-- ITS FALSE NEIGHBOUR: 'it returns false'. Refute it at one input. -/
def aluShiftsWrong : ChangeSpec := { name := "aluShifts", fn := fun _ => fun
  | [d1, d2] => { results := [.lit (.bool false)], args := [d1, d2] }
  | _ => none }
def AluShiftsWrongFalsely : Prop := aluShiftsRow.holds Try.pinned (OpenSpec.ofChange aluShiftsWrong)

/-- 'mezzaninelaw21.AluWords': WHATEVER THE INPUT: true; the input reads as it did. -/
def aluWordsSpec : ChangeSpec := { name := "aluWords", fn := fun _ => fun
  | [d1, d2, d3, d4, d5, d6] => { results := [.lit (.bool true)], args := [d1, d2, d3, d4, d5, d6] }
  | _ => none }
def aluWordsRow : OpenClaim := { program := "ytbfdehkejohjhaa", sum := "a0bdb200d2241834e719ccc567d6fc167fb44e3eb61482774c3f40bfd3da3e12", func := "mezzanine/mezzaninelaw21.AluWords", spec := "aluWords", unfollowed := true, recurses := true, apart := false }
def AluWordsSaid : Prop := aluWordsRow.holds Try.pinned (OpenSpec.ofChange aluWordsSpec)

/-- ITS FALSE NEIGHBOUR: 'it returns false'. Refute it at one input. -/
def aluWordsWrong : ChangeSpec := { name := "aluWords", fn := fun _ => fun
  | [d1, d2, d3, d4, d5, d6] => { results := [.lit (.bool false)], args := [d1, d2, d3, d4, d5, d6] }
  | _ => none }
def AluWordsWrongFalsely : Prop := aluWordsRow.holds Try.pinned (OpenSpec.ofChange aluWordsWrong)

/-- 'mezzaninelaw21.AluPlace': WHATEVER THE INPUT: true; the input reads as it did. -/
def aluPlaceSpec : ChangeSpec := { name := "aluPlace", fn := fun _ => fun
  | [d1, d2, d3, d4, d5] => { results := [.lit (.bool true)], args := [d1, d2, d3, d4, d5] }
  | _ => none }
def aluPlaceRow : OpenClaim := { program := "ytbfdehkejohjhaa", sum := "a0bdb200d2241834e719ccc567d6fc167fb44e3eb61482774c3f40bfd3da3e12", func := "mezzanine/mezzaninelaw21.AluPlace", spec := "aluPlace", unfollowed := true, recurses := true, apart := false }
def AluPlaceSaid : Prop := aluPlaceRow.holds Try.pinned (OpenSpec.ofChange aluPlaceSpec)

/-- ITS FALSE NEIGHBOUR: 'it returns false'. Refute it at one input. -/
def aluPlaceWrong : ChangeSpec := { name := "aluPlace", fn := fun _ => fun
  | [d1, d2, d3, d4, d5] => { results := [.lit (.bool false)], args := [d1, d2, d3, d4, d5] }
  | _ => none }
def AluPlaceWrongFalsely : Prop := aluPlaceRow.holds Try.pinned (OpenSpec.ofChange aluPlaceWrong)

/- THE SECOND FORM. 'bulk': how many values and letters a reading holds, each counted each time it is reached (what is shared counts as often as it is met; a slice's spare places count too). A statement '..UptoSaid' is the law's where the arguments, and the package variables that the reading takes, are together of bulk at most 1048576: NARROWER than '..Said'. Prove '..Said' where nothing that the law and all that it calls make is longer than what came in: it says more and counts as full. Else prove '..UptoSaid'. A law counts once. -/
mutual
def uptoBulk {H : Type} : DataW H → Nat
  | .lit (.string bytes) => bytes.length + 1
  | .lit _ => 1
  | .nil => 1
  | .ptr d => uptoBulk d + 1
  | .slice elems spare => uptoBulkAll elems + uptoBulkAll spare + 1
  | .agg parts => uptoBulkAll parts + 1
  | .iface _ d => uptoBulk d + 1
  | .map entries => uptoBulkEntries entries + 1
  | .held _ => 1
def uptoBulkAll {H : Type} : List (DataW H) → Nat
  | [] => 0
  | d :: r => uptoBulk d + uptoBulkAll r
def uptoBulkEntries {H : Type} : List (Lit × DataW H) → Nat
  | [] => 0
  | x :: r => uptoBulkEntry x + uptoBulkEntries r
def uptoBulkEntry {H : Type} : Lit × DataW H → Nat
  | (.string bytes, d) => bytes.length + uptoBulk d + 1
  | (_, d) => uptoBulk d + 1
 end
def uptoSmall : (H : Type) → List (DataW H) → Bool := fun _ ds => decide (uptoBulkAll ds ≤ 1048576)
def OpenSpec.upto (s : _root_.Go.ChangeSpec) : _root_.Go.OpenSpec := { _root_.Go.OpenSpec.ofChange s with cond := some uptoSmall }

/-- 'mezzaninelaw21.AluValues', WHERE WHAT IT READS IS OF BULK AT MOST 1048576: true; the input reads as it did. -/
def aluValuesUptoRow : OpenClaim := { program := "ytbfdehkejohjhaa", sum := "a0bdb200d2241834e719ccc567d6fc167fb44e3eb61482774c3f40bfd3da3e12", func := "mezzanine/mezzaninelaw21.AluValues", spec := "aluValues", unfollowed := true, recurses := true, apart := false, narrowed := true }
def AluValuesUptoSaid : Prop := aluValuesUptoRow.holds Try.pinned (OpenSpec.upto aluValuesSpec)

/-- 'mezzaninelaw21.AluJumps', WHERE WHAT IT READS IS OF BULK AT MOST 1048576: true; the input reads as it did. -/
def aluJumpsUptoRow : OpenClaim := { program := "ytbfdehkejohjhaa", sum := "a0bdb200d2241834e719ccc567d6fc167fb44e3eb61482774c3f40bfd3da3e12", func := "mezzanine/mezzaninelaw21.AluJumps", spec := "aluJumps", unfollowed := true, recurses := true, apart := false, narrowed := true }
def AluJumpsUptoSaid : Prop := aluJumpsUptoRow.holds Try.pinned (OpenSpec.upto aluJumpsSpec)

/-- 'mezzaninelaw21.AluPairs', WHERE WHAT IT READS IS OF BULK AT MOST 1048576: true; the input reads as it did. -/
def aluPairsUptoRow : OpenClaim := { program := "ytbfdehkejohjhaa", sum := "a0bdb200d2241834e719ccc567d6fc167fb44e3eb61482774c3f40bfd3da3e12", func := "mezzanine/mezzaninelaw21.AluPairs", spec := "aluPairs", unfollowed := true, recurses := true, apart := false, narrowed := true }
def AluPairsUptoSaid : Prop := aluPairsUptoRow.holds Try.pinned (OpenSpec.upto aluPairsSpec)

/-- 'mezzaninelaw21.AluShifts', WHERE WHAT IT READS IS OF BULK AT MOST 1048576: true; the input reads as it did. -/
def aluShiftsUptoRow : OpenClaim := { program := "ytbfdehkejohjhaa", sum := "a0bdb200d2241834e719ccc567d6fc167fb44e3eb61482774c3f40bfd3da3e12", func := "mezzanine/mezzaninelaw21.AluShifts", spec := "aluShifts", unfollowed := true, recurses := true, apart := false, narrowed := true }
def AluShiftsUptoSaid : Prop := aluShiftsUptoRow.holds Try.pinned (OpenSpec.upto aluShiftsSpec)

/-- 'mezzaninelaw21.AluWords', WHERE WHAT IT READS IS OF BULK AT MOST 1048576: true; the input reads as it did. -/
def aluWordsUptoRow : OpenClaim := { program := "ytbfdehkejohjhaa", sum := "a0bdb200d2241834e719ccc567d6fc167fb44e3eb61482774c3f40bfd3da3e12", func := "mezzanine/mezzaninelaw21.AluWords", spec := "aluWords", unfollowed := true, recurses := true, apart := false, narrowed := true }
def AluWordsUptoSaid : Prop := aluWordsUptoRow.holds Try.pinned (OpenSpec.upto aluWordsSpec)

/-- 'mezzaninelaw21.AluPlace', WHERE WHAT IT READS IS OF BULK AT MOST 1048576: true; the input reads as it did. -/
def aluPlaceUptoRow : OpenClaim := { program := "ytbfdehkejohjhaa", sum := "a0bdb200d2241834e719ccc567d6fc167fb44e3eb61482774c3f40bfd3da3e12", func := "mezzanine/mezzaninelaw21.AluPlace", spec := "aluPlace", unfollowed := true, recurses := true, apart := false, narrowed := true }
def AluPlaceUptoSaid : Prop := aluPlaceUptoRow.holds Try.pinned (OpenSpec.upto aluPlaceSpec)

end Rows
end Go.Proofs.Ytbfdehkejohjhaa
