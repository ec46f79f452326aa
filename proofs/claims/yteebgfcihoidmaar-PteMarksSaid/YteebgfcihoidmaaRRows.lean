/-
  No cell of these rows narrows 'for every input' (looked for: loops, veiled, ifaces, maps, wideKeys, modest, calm, conditions, laid).
  DERIVED. THE GIVEN ROWS OF THIS SEAT. 7 by the template 'for every input the law returns true; each argument reads behind the call as it read before'; 0 by the template 'total and deterministic' (their statements: YteebgfcihoidmaaRTotals.lean).
  GIVEN WITH THE SEED: the statements are not yours to turn. If you find one false, say at which input.
  Laid BY PROGRAM, IN A SANDBOX (cutbox-rows.mjs): the forced cells as the released guide's own fill.sh prints them over the translation a935505b29c7cfec… (all of the seat's roots in one cut). By AI agents, Wed Nov 11 2026. No macro, syntax, notation, axiom, sorry.
-/
import Derived.Test.YteebgfcihoidmaaRChecked
import GoSem.Claim
import GoSem.ClaimJoined
import GoSem.ClaimMapViews
import Derived.JoinedTies
import Derived.KernelRfl
namespace Go.Proofs.YteebgfcihoidmaaR
/- THE CELL 'sum', in the pinned program and in every row, IS THE sha256 OF THE DUMP (.gsa) THAT YteebgfcihoidmaaRProg.lean LOADS. Nothing in Lean hashes anything: it is a label: what it is worth is what the hold of that sum in a sandbox is worth. -/
noncomputable def Try.pinned : Pinned := { name := "yteebgfcihoidmaar", sum := "a935505b29c7cfecb6fd7682045b42558d7b7f616420683c1da4ad9dd8cacc1c", checked := Try.checked }
namespace Rows
def none {H : Type} : Left H := { results := [], args := [] }

/-- 'mezzaninelaw15.PteParts': WHATEVER THE INPUT: true; the input reads as it did. -/
def ptePartsSpec : ChangeSpec := { name := "pteParts", fn := fun _ => fun
  | [d1, d2, d3] => { results := [.lit (.bool true)], args := [d1, d2, d3] }
  | _ => none }
def ptePartsRow : OpenClaim := { program := "yteebgfcihoidmaar", sum := "a935505b29c7cfecb6fd7682045b42558d7b7f616420683c1da4ad9dd8cacc1c", func := "mezzanine/mezzaninelaw15.PteParts", spec := "pteParts", apart := false }
def PtePartsSaid : Prop := ptePartsRow.holds Try.pinned (OpenSpec.ofChange ptePartsSpec)

/-- ITS FALSE NEIGHBOUR: 'it returns false'. Refute it at one input. -/
def ptePartsWrong : ChangeSpec := { name := "pteParts", fn := fun _ => fun
  | [d1, d2, d3] => { results := [.lit (.bool false)], args := [d1, d2, d3] }
  | _ => none }
def PtePartsWrongFalsely : Prop := ptePartsRow.holds Try.pinned (OpenSpec.ofChange ptePartsWrong)

/-- 'mezzaninelaw15.PteJudges': WHATEVER THE INPUT: true; the input reads as it did. -/
def pteJudgesSpec : ChangeSpec := { name := "pteJudges", fn := fun _ => fun
  | [d1, d2, d3] => { results := [.lit (.bool true)], args := [d1, d2, d3] }
  | _ => none }
def pteJudgesRow : OpenClaim := { program := "yteebgfcihoidmaar", sum := "a935505b29c7cfecb6fd7682045b42558d7b7f616420683c1da4ad9dd8cacc1c", func := "mezzanine/mezzaninelaw15.PteJudges", spec := "pteJudges", apart := false }
def PteJudgesSaid : Prop := pteJudgesRow.holds Try.pinned (OpenSpec.ofChange pteJudgesSpec)

/-- ITS FALSE NEIGHBOUR: 'it returns false'. Refute it at one input. -/
def pteJudgesWrong : ChangeSpec := { name := "pteJudges", fn := fun _ => fun
  | [d1, d2, d3] => { results := [.lit (.bool false)], args := [d1, d2, d3] }
  | _ => none }
def PteJudgesWrongFalsely : Prop := pteJudgesRow.holds Try.pinned (OpenSpec.ofChange pteJudgesWrong)

/-- 'mezzaninelaw15.PteAllows': WHATEVER THE INPUT: true; the input reads as it did. -/
def pteAllowsSpec : ChangeSpec := { name := "pteAllows", fn := fun _ => fun
  | [d1, d2] => { results := [.lit (.bool true)], args := [d1, d2] }
  | _ => none }
def pteAllowsRow : OpenClaim := { program := "yteebgfcihoidmaar", sum := "a935505b29c7cfecb6fd7682045b42558d7b7f616420683c1da4ad9dd8cacc1c", func := "mezzanine/mezzaninelaw15.PteAllows", spec := "pteAllows", apart := false }
def PteAllowsSaid : Prop := pteAllowsRow.holds Try.pinned (OpenSpec.ofChange pteAllowsSpec)

/-- ITS FALSE NEIGHBOUR: 'it returns false'. Refute it at one input. -/
def pteAllowsWrong : ChangeSpec := { name := "pteAllows", fn := fun _ => fun
  | [d1, d2] => { results := [.lit (.bool false)], args := [d1, d2] }
  | _ => none }
def PteAllowsWrongFalsely : Prop := pteAllowsRow.holds Try.pinned (OpenSpec.ofChange pteAllowsWrong)

/-- 'mezzaninelaw15.PteMarks': WHATEVER THE INPUT: true; the input reads as it did. -/
def pteMarksSpec : ChangeSpec := { name := "pteMarks", fn := fun _ => fun
  | [d1, d2] => { results := [.lit (.bool true)], args := [d1, d2] }
  | _ => none }
def pteMarksRow : OpenClaim := { program := "yteebgfcihoidmaar", sum := "a935505b29c7cfecb6fd7682045b42558d7b7f616420683c1da4ad9dd8cacc1c", func := "mezzanine/mezzaninelaw15.PteMarks", spec := "pteMarks", apart := false }
def PteMarksSaid : Prop := pteMarksRow.holds Try.pinned (OpenSpec.ofChange pteMarksSpec)

/-- ITS FALSE NEIGHBOUR: 'it returns false'. Refute it at one input. -/
def pteMarksWrong : ChangeSpec := { name := "pteMarks", fn := fun _ => fun
  | [d1, d2] => { results := [.lit (.bool false)], args := [d1, d2] }
  | _ => none }
def PteMarksWrongFalsely : Prop := pteMarksRow.holds Try.pinned (OpenSpec.ofChange pteMarksWrong)

/-- 'mezzaninelaw15.PteMade': WHATEVER THE INPUT: true; the input reads as it did. -/
def pteMadeSpec : ChangeSpec := { name := "pteMade", fn := fun _ => fun
  | [d1, d2, d3] => { results := [.lit (.bool true)], args := [d1, d2, d3] }
  | _ => none }
def pteMadeRow : OpenClaim := { program := "yteebgfcihoidmaar", sum := "a935505b29c7cfecb6fd7682045b42558d7b7f616420683c1da4ad9dd8cacc1c", func := "mezzanine/mezzaninelaw15.PteMade", spec := "pteMade", apart := false }
def PteMadeSaid : Prop := pteMadeRow.holds Try.pinned (OpenSpec.ofChange pteMadeSpec)

/-- ITS FALSE NEIGHBOUR: 'it returns false'. Refute it at one input. -/
def pteMadeWrong : ChangeSpec := { name := "pteMade", fn := fun _ => fun
  | [d1, d2, d3] => { results := [.lit (.bool false)], args := [d1, d2, d3] }
  | _ => none }
def PteMadeWrongFalsely : Prop := pteMadeRow.holds Try.pinned (OpenSpec.ofChange pteMadeWrong)

/-- 'mezzaninelaw15.PteFinds': WHATEVER THE INPUT: true; the input reads as it did. -/
def pteFindsSpec : ChangeSpec := { name := "pteFinds", fn := fun _ => fun
  | [d1, d2, d3, d4] => { results := [.lit (.bool true)], args := [d1, d2, d3, d4] }
  | _ => none }
def pteFindsRow : OpenClaim := { program := "yteebgfcihoidmaar", sum := "a935505b29c7cfecb6fd7682045b42558d7b7f616420683c1da4ad9dd8cacc1c", func := "mezzanine/mezzaninelaw15.PteFinds", spec := "pteFinds", apart := false }
def PteFindsSaid : Prop := pteFindsRow.holds Try.pinned (OpenSpec.ofChange pteFindsSpec)

/-- ITS FALSE NEIGHBOUR: 'it returns false'. Refute it at one input. -/
def pteFindsWrong : ChangeSpec := { name := "pteFinds", fn := fun _ => fun
  | [d1, d2, d3, d4] => { results := [.lit (.bool false)], args := [d1, d2, d3, d4] }
  | _ => none }
def PteFindsWrongFalsely : Prop := pteFindsRow.holds Try.pinned (OpenSpec.ofChange pteFindsWrong)

/-- 'mezzaninelaw15.PteKnown': WHATEVER THE INPUT: true; the input reads as it did. -/
def pteKnownSpec : ChangeSpec := { name := "pteKnown", fn := fun _ => fun
  | [] => { results := [.lit (.bool true)], args := [] }
  | _ => none }
def pteKnownRow : OpenClaim := { program := "yteebgfcihoidmaar", sum := "a935505b29c7cfecb6fd7682045b42558d7b7f616420683c1da4ad9dd8cacc1c", func := "mezzanine/mezzaninelaw15.PteKnown", spec := "pteKnown", apart := false }
def PteKnownSaid : Prop := pteKnownRow.holds Try.pinned (OpenSpec.ofChange pteKnownSpec)

/-- ITS FALSE NEIGHBOUR: 'it returns false'. Refute it at one input. -/
def pteKnownWrong : ChangeSpec := { name := "pteKnown", fn := fun _ => fun
  | [] => { results := [.lit (.bool false)], args := [] }
  | _ => none }
def PteKnownWrongFalsely : Prop := pteKnownRow.holds Try.pinned (OpenSpec.ofChange pteKnownWrong)

/- THE SECOND FORM. 'bulk': how many values and letters a reading holds, each counted each time it is reached (what is shared counts as often as it is met; a slice's spare places count too). A statement '..UptoSaid' is the law's where the arguments, and the package variables that the reading takes, are together of bulk at most 1048576: NARROWER than '..Said'. Prove '..Said' where nothing that the law and all that it calls make is longer than what came in: it says more and counts as full. Else prove '..UptoSaid'. A law counts once. -/
mutual
def uptoBulk {H : Type} : DataW H → Nat
  | .lit (.string bytes) => bytes.length + 1
  | .lit _ => 1
  | .nil => 1
  | .ptr d => uptoBulk d + 1
  | .slice elems spare => uptoBulkAll elems + uptoBulkAll spare + 1
  | .agg parts => uptoBulkAll parts + 1
  | .iface _ d => uptoBulk d + 1
  | .map entries => uptoBulkEntries entries + 1
  | .held _ => 1
def uptoBulkAll {H : Type} : List (DataW H) → Nat
  | [] => 0
  | d :: r => uptoBulk d + uptoBulkAll r
def uptoBulkEntries {H : Type} : List (Lit × DataW H) → Nat
  | [] => 0
  | x :: r => uptoBulkEntry x + uptoBulkEntries r
def uptoBulkEntry {H : Type} : Lit × DataW H → Nat
  | (.string bytes, d) => bytes.length + uptoBulk d + 1
  | (_, d) => uptoBulk d + 1
 end
def uptoSmall : (H : Type) → List (DataW H) → Bool := fun _ ds => decide (uptoBulkAll ds ≤ 1048576)
def OpenSpec.upto (s : _root_.Go.ChangeSpec) : _root_.Go.OpenSpec := { _root_.Go.OpenSpec.ofChange s with cond := some uptoSmall }

/-- 'mezzaninelaw15.PteParts', WHERE WHAT IT READS IS OF BULK AT MOST 1048576: true; the input reads as it did. -/
def ptePartsUptoRow : OpenClaim := { program := "yteebgfcihoidmaar", sum := "a935505b29c7cfecb6fd7682045b42558d7b7f616420683c1da4ad9dd8cacc1c", func := "mezzanine/mezzaninelaw15.PteParts", spec := "pteParts", apart := false, narrowed := true }
def PtePartsUptoSaid : Prop := ptePartsUptoRow.holds Try.pinned (OpenSpec.upto ptePartsSpec)

/-- 'mezzaninelaw15.PteJudges', WHERE WHAT IT READS IS OF BULK AT MOST 1048576: true; the input reads as it did. -/
def pteJudgesUptoRow : OpenClaim := { program := "yteebgfcihoidmaar", sum := "a935505b29c7cfecb6fd7682045b42558d7b7f616420683c1da4ad9dd8cacc1c", func := "mezzanine/mezzaninelaw15.PteJudges", spec := "pteJudges", apart := false, narrowed := true }
def PteJudgesUptoSaid : Prop := pteJudgesUptoRow.holds Try.pinned (OpenSpec.upto pteJudgesSpec)

/-- 'mezzaninelaw15.PteAllows', WHERE WHAT IT READS IS OF BULK AT MOST 1048576: true; the input reads as it did. -/
def pteAllowsUptoRow : OpenClaim := { program := "yteebgfcihoidmaar", sum := "a935505b29c7cfecb6fd7682045b42558d7b7f616420683c1da4ad9dd8cacc1c", func := "mezzanine/mezzaninelaw15.PteAllows", spec := "pteAllows", apart := false, narrowed := true }
def PteAllowsUptoSaid : Prop := pteAllowsUptoRow.holds Try.pinned (OpenSpec.upto pteAllowsSpec)

/-- 'mezzaninelaw15.PteMarks', WHERE WHAT IT READS IS OF BULK AT MOST 1048576: true; the input reads as it did. -/
def pteMarksUptoRow : OpenClaim := { program := "yteebgfcihoidmaar", sum := "a935505b29c7cfecb6fd7682045b42558d7b7f616420683c1da4ad9dd8cacc1c", func := "mezzanine/mezzaninelaw15.PteMarks", spec := "pteMarks", apart := false, narrowed := true }
def PteMarksUptoSaid : Prop := pteMarksUptoRow.holds Try.pinned (OpenSpec.upto pteMarksSpec)

/-- 'mezzaninelaw15.PteMade', WHERE WHAT IT READS IS OF BULK AT MOST 1048576: true; the input reads as it did. -/
def pteMadeUptoRow : OpenClaim := { program := "yteebgfcihoidmaar", sum := "a935505b29c7cfecb6fd7682045b42558d7b7f616420683c1da4ad9dd8cacc1c", func := "mezzanine/mezzaninelaw15.PteMade", spec := "pteMade", apart := false, narrowed := true }
def PteMadeUptoSaid : Prop := pteMadeUptoRow.holds Try.pinned (OpenSpec.upto pteMadeSpec)

/-- 'mezzaninelaw15.PteFinds', WHERE WHAT IT READS IS OF BULK AT MOST 1048576: true; the input reads as it did. -/
def pteFindsUptoRow : OpenClaim := { program := "yteebgfcihoidmaar", sum := "a935505b29c7cfecb6fd7682045b42558d7b7f616420683c1da4ad9dd8cacc1c", func := "mezzanine/mezzaninelaw15.PteFinds", spec := "pteFinds", apart := false, narrowed := true }
def PteFindsUptoSaid : Prop := pteFindsUptoRow.holds Try.pinned (OpenSpec.upto pteFindsSpec)

/-- 'mezzaninelaw15.PteKnown', WHERE WHAT IT READS IS OF BULK AT MOST 1048576: true; the input reads as it did. -/
def pteKnownUptoRow : OpenClaim := { program := "yteebgfcihoidmaar", sum := "a935505b29c7cfecb6fd7682045b42558d7b7f616420683c1da4ad9dd8cacc1c", func := "mezzanine/mezzaninelaw15.PteKnown", spec := "pteKnown", apart := false, narrowed := true }
def PteKnownUptoSaid : Prop := pteKnownUptoRow.holds Try.pinned (OpenSpec.upto pteKnownSpec)

end Rows
end Go.Proofs.YteebgfcihoidmaaR
