/-
  NARROWER THAN 'FOR EVERY INPUT', by the rows' own cells (each row's printed sentence says how): IrqGuests: laid · IrqFewer: laid · IrqNexts: laid · IrqAsked: laid.
  DERIVED. THE GIVEN ROWS OF THIS SEAT. 4 by the template 'for every input the law returns true; each argument reads behind the call as it read before'; 0 by the template 'total and deterministic' (their statements: YtpbodidpcbodaaaDoorTotals.lean).
  GIVEN WITH THE SEED: the statements are not yours to turn. If you find one false, say at which input.
  Laid BY PROGRAM, IN A SANDBOX (cutbox-rows.mjs): the forced cells as the released guide's own fill.sh prints them over the translation eab8de74cbb0b3b8… (all of the seat's roots in one cut). By AI agents, Wed Nov 11 2026. No macro, syntax, notation, axiom, sorry.
-/
import Derived.Test.YtpbodidpcbodaaaDoorChecked
import GoSem.Claim
import GoSem.ClaimJoined
import GoSem.ClaimMapViews
import Derived.JoinedTies
import Derived.KernelRfl
namespace Go.Proofs.YtpbodidpcbodaaaDoor
/- THE CELL 'sum', in the pinned program and in every row, IS THE sha256 OF THE DUMP (.gsa) THAT YtpbodidpcbodaaaDoorProg.lean LOADS. Nothing in Lean hashes anything: it is a label: what it is worth is what the hold of that sum in a sandbox is worth. -/
noncomputable def Tryd.pinned : Pinned := { name := "ytpbodidpcbodaaadoor", sum := "eab8de74cbb0b3b838db35191c1d57fef6162de64bfb91f59b8f81ab5be29c36", checked := Tryd.checked }
namespace Rows
def none {H : Type} : Left H := { results := [], args := [] }

/- WHAT THE LISTED PACKAGE-LEVEL VARIABLES READ AS WHEN THE CALL BEGINS. Each datum BY PROGRAM (the guide's laid-datum.mjs) off the statement by which the dump's own 'gosem.cut.vars' lays the variable. In a bare row this is a premise. The card (YtpbodidpcbodaaaDoorCards.lean) ties it to the program's text. -/
def laid_math_bits_deBruijn64tab {H : Type} : DataW H := .agg [.lit (.int .u8 0), .lit (.int .u8 1), .lit (.int .u8 56), .lit (.int .u8 2), .lit (.int .u8 57), .lit (.int .u8 49), .lit (.int .u8 28), .lit (.int .u8 3), .lit (.int .u8 61), .lit (.int .u8 58), .lit (.int .u8 42), .lit (.int .u8 50), .lit (.int .u8 38), .lit (.int .u8 29), .lit (.int .u8 17), .lit (.int .u8 4), .lit (.int .u8 62), .lit (.int .u8 47), .lit (.int .u8 59), .lit (.int .u8 36), .lit (.int .u8 45), .lit (.int .u8 43), .lit (.int .u8 51), .lit (.int .u8 22), .lit (.int .u8 53), .lit (.int .u8 39), .lit (.int .u8 33), .lit (.int .u8 30), .lit (.int .u8 24), .lit (.int .u8 18), .lit (.int .u8 12), .lit (.int .u8 5), .lit (.int .u8 63), .lit (.int .u8 55), .lit (.int .u8 48), .lit (.int .u8 27), .lit (.int .u8 60), .lit (.int .u8 41), .lit (.int .u8 37), .lit (.int .u8 16), .lit (.int .u8 46), .lit (.int .u8 35), .lit (.int .u8 44), .lit (.int .u8 21), .lit (.int .u8 52), .lit (.int .u8 32), .lit (.int .u8 23), .lit (.int .u8 11), .lit (.int .u8 54), .lit (.int .u8 26), .lit (.int .u8 40), .lit (.int .u8 15), .lit (.int .u8 34), .lit (.int .u8 20), .lit (.int .u8 31), .lit (.int .u8 10), .lit (.int .u8 25), .lit (.int .u8 14), .lit (.int .u8 19), .lit (.int .u8 9), .lit (.int .u8 13), .lit (.int .u8 8), .lit (.int .u8 7), .lit (.int .u8 6)]
def laid_mezzanine_csrno_rows {H : Type} : DataW H := .agg [.agg [.lit (.int .i64 256), .lit (.string [115, 115, 116, 97, 116, 117, 115])], .agg [.lit (.int .i64 260), .lit (.string [115, 105, 101])], .agg [.lit (.int .i64 261), .lit (.string [115, 116, 118, 101, 99])], .agg [.lit (.int .i64 262), .lit (.string [115, 99, 111, 117, 110, 116, 101, 114, 101, 110])], .agg [.lit (.int .i64 320), .lit (.string [115, 115, 99, 114, 97, 116, 99, 104])], .agg [.lit (.int .i64 321), .lit (.string [115, 101, 112, 99])], .agg [.lit (.int .i64 322), .lit (.string [115, 99, 97, 117, 115, 101])], .agg [.lit (.int .i64 323), .lit (.string [115, 116, 118, 97, 108])], .agg [.lit (.int .i64 324), .lit (.string [115, 105, 112])], .agg [.lit (.int .i64 384), .lit (.string [115, 97, 116, 112])], .agg [.lit (.int .i64 512), .lit (.string [118, 115, 115, 116, 97, 116, 117, 115])], .agg [.lit (.int .i64 516), .lit (.string [118, 115, 105, 101])], .agg [.lit (.int .i64 517), .lit (.string [118, 115, 116, 118, 101, 99])], .agg [.lit (.int .i64 576), .lit (.string [118, 115, 115, 99, 114, 97, 116, 99, 104])], .agg [.lit (.int .i64 577), .lit (.string [118, 115, 101, 112, 99])], .agg [.lit (.int .i64 578), .lit (.string [118, 115, 99, 97, 117, 115, 101])], .agg [.lit (.int .i64 579), .lit (.string [118, 115, 116, 118, 97, 108])], .agg [.lit (.int .i64 580), .lit (.string [118, 115, 105, 112])], .agg [.lit (.int .i64 640), .lit (.string [118, 115, 97, 116, 112])], .agg [.lit (.int .i64 768), .lit (.string [109, 115, 116, 97, 116, 117, 115])], .agg [.lit (.int .i64 769), .lit (.string [109, 105, 115, 97])], .agg [.lit (.int .i64 770), .lit (.string [109, 101, 100, 101, 108, 101, 103])], .agg [.lit (.int .i64 771), .lit (.string [109, 105, 100, 101, 108, 101, 103])], .agg [.lit (.int .i64 772), .lit (.string [109, 105, 101])], .agg [.lit (.int .i64 773), .lit (.string [109, 116, 118, 101, 99])], .agg [.lit (.int .i64 774), .lit (.string [109, 99, 111, 117, 110, 116, 101, 114, 101, 110])], .agg [.lit (.int .i64 832), .lit (.string [109, 115, 99, 114, 97, 116, 99, 104])], .agg [.lit (.int .i64 833), .lit (.string [109, 101, 112, 99])], .agg [.lit (.int .i64 834), .lit (.string [109, 99, 97, 117, 115, 101])], .agg [.lit (.int .i64 835), .lit (.string [109, 116, 118, 97, 108])], .agg [.lit (.int .i64 836), .lit (.string [109, 105, 112])], .agg [.lit (.int .i64 842), .lit (.string [109, 116, 105, 110, 115, 116])], .agg [.lit (.int .i64 843), .lit (.string [109, 116, 118, 97, 108, 50])], .agg [.lit (.int .i64 1536), .lit (.string [104, 115, 116, 97, 116, 117, 115])], .agg [.lit (.int .i64 1538), .lit (.string [104, 101, 100, 101, 108, 101, 103])], .agg [.lit (.int .i64 1539), .lit (.string [104, 105, 100, 101, 108, 101, 103])], .agg [.lit (.int .i64 1540), .lit (.string [104, 105, 101])], .agg [.lit (.int .i64 1541), .lit (.string [104, 116, 105, 109, 101, 100, 101, 108, 116, 97])], .agg [.lit (.int .i64 1542), .lit (.string [104, 99, 111, 117, 110, 116, 101, 114, 101, 110])], .agg [.lit (.int .i64 1543), .lit (.string [104, 103, 101, 105, 101])], .agg [.lit (.int .i64 1603), .lit (.string [104, 116, 118, 97, 108])], .agg [.lit (.int .i64 1604), .lit (.string [104, 105, 112])], .agg [.lit (.int .i64 1605), .lit (.string [104, 118, 105, 112])], .agg [.lit (.int .i64 1610), .lit (.string [104, 116, 105, 110, 115, 116])], .agg [.lit (.int .i64 1664), .lit (.string [104, 103, 97, 116, 112])], .agg [.lit (.int .i64 2816), .lit (.string [109, 99, 121, 99, 108, 101])], .agg [.lit (.int .i64 2818), .lit (.string [109, 105, 110, 115, 116, 114, 101, 116])], .agg [.lit (.int .i64 3072), .lit (.string [99, 121, 99, 108, 101])], .agg [.lit (.int .i64 3073), .lit (.string [116, 105, 109, 101])], .agg [.lit (.int .i64 3074), .lit (.string [105, 110, 115, 116, 114, 101, 116])], .agg [.lit (.int .i64 3602), .lit (.string [104, 103, 101, 105, 112])], .agg [.lit (.int .i64 3857), .lit (.string [109, 118, 101, 110, 100, 111, 114, 105, 100])], .agg [.lit (.int .i64 3858), .lit (.string [109, 97, 114, 99, 104, 105, 100])], .agg [.lit (.int .i64 3859), .lit (.string [109, 105, 109, 112, 105, 100])], .agg [.lit (.int .i64 3860), .lit (.string [109, 104, 97, 114, 116, 105, 100])], .agg [.lit (.int .i64 3861), .lit (.string [109, 99, 111, 110, 102, 105, 103, 112, 116, 114])]]

/-- 'mezzaninelaw13.IrqGuests': WHATEVER THE INPUT: true; the input reads as it did. -/
def irqGuestsSpec : ChangeSpec := { name := "irqGuests", fn := fun _ => fun
  | [d1, d2] => { results := [.lit (.bool true)], args := [d1, d2] }
  | _ => none }
def irqGuestsRow : OpenClaim := { program := "ytpbodidpcbodaaadoor", sum := "eab8de74cbb0b3b838db35191c1d57fef6162de64bfb91f59b8f81ab5be29c36", func := "mezzanine/mezzaninelaw13.IrqGuests", spec := "irqGuests", unfollowed := true, recurses := true, named := ["math/bits.deBruijn64tab", "mezzanine/csrno.rows"], apart := false, laid := [("math/bits.deBruijn64tab", laid_math_bits_deBruijn64tab), ("mezzanine/csrno.rows", laid_mezzanine_csrno_rows)] }
def IrqGuestsSaid : Prop := irqGuestsRow.holds Tryd.pinned (OpenSpec.ofChange irqGuestsSpec)

/-- ITS FALSE NEIGHBOUR: 'it returns false'. Refute it at one input. -/
def irqGuestsWrong : ChangeSpec := { name := "irqGuests", fn := fun _ => fun
  | [d1, d2] => { results := [.lit (.bool false)], args := [d1, d2] }
  | _ => none }
def IrqGuestsWrongFalsely : Prop := irqGuestsRow.holds Tryd.pinned (OpenSpec.ofChange irqGuestsWrong)

/-- 'mezzaninelaw13.IrqFewer': WHATEVER THE INPUT: true; the input reads as it did. -/
def irqFewerSpec : ChangeSpec := { name := "irqFewer", fn := fun _ => fun
  | [d1, d2, d3] => { results := [.lit (.bool true)], args := [d1, d2, d3] }
  | _ => none }
def irqFewerRow : OpenClaim := { program := "ytpbodidpcbodaaadoor", sum := "eab8de74cbb0b3b838db35191c1d57fef6162de64bfb91f59b8f81ab5be29c36", func := "mezzanine/mezzaninelaw13.IrqFewer", spec := "irqFewer", unfollowed := true, recurses := true, named := ["math/bits.deBruijn64tab", "mezzanine/csrno.rows"], apart := false, laid := [("math/bits.deBruijn64tab", laid_math_bits_deBruijn64tab), ("mezzanine/csrno.rows", laid_mezzanine_csrno_rows)] }
def IrqFewerSaid : Prop := irqFewerRow.holds Tryd.pinned (OpenSpec.ofChange irqFewerSpec)

/-- ITS FALSE NEIGHBOUR: 'it returns false'. Refute it at one input. -/
def irqFewerWrong : ChangeSpec := { name := "irqFewer", fn := fun _ => fun
  | [d1, d2, d3] => { results := [.lit (.bool false)], args := [d1, d2, d3] }
  | _ => none }
def IrqFewerWrongFalsely : Prop := irqFewerRow.holds Tryd.pinned (OpenSpec.ofChange irqFewerWrong)

/-- 'mezzaninelaw13.IrqNexts': WHATEVER THE INPUT: true; the input reads as it did. -/
def irqNextsSpec : ChangeSpec := { name := "irqNexts", fn := fun _ => fun
  | [d1, d2] => { results := [.lit (.bool true)], args := [d1, d2] }
  | _ => none }
def irqNextsRow : OpenClaim := { program := "ytpbodidpcbodaaadoor", sum := "eab8de74cbb0b3b838db35191c1d57fef6162de64bfb91f59b8f81ab5be29c36", func := "mezzanine/mezzaninelaw13.IrqNexts", spec := "irqNexts", unfollowed := true, recurses := true, named := ["math/bits.deBruijn64tab", "mezzanine/csrno.rows"], apart := false, laid := [("math/bits.deBruijn64tab", laid_math_bits_deBruijn64tab), ("mezzanine/csrno.rows", laid_mezzanine_csrno_rows)] }
def IrqNextsSaid : Prop := irqNextsRow.holds Tryd.pinned (OpenSpec.ofChange irqNextsSpec)

/-- ITS FALSE NEIGHBOUR: 'it returns false'. Refute it at one input. -/
def irqNextsWrong : ChangeSpec := { name := "irqNexts", fn := fun _ => fun
  | [d1, d2] => { results := [.lit (.bool false)], args := [d1, d2] }
  | _ => none }
def IrqNextsWrongFalsely : Prop := irqNextsRow.holds Tryd.pinned (OpenSpec.ofChange irqNextsWrong)

/-- 'mezzaninelaw13.IrqAsked': WHATEVER THE INPUT: true; the input reads as it did. -/
def irqAskedSpec : ChangeSpec := { name := "irqAsked", fn := fun _ => fun
  | [d1, d2] => { results := [.lit (.bool true)], args := [d1, d2] }
  | _ => none }
def irqAskedRow : OpenClaim := { program := "ytpbodidpcbodaaadoor", sum := "eab8de74cbb0b3b838db35191c1d57fef6162de64bfb91f59b8f81ab5be29c36", func := "mezzanine/mezzaninelaw13.IrqAsked", spec := "irqAsked", unfollowed := true, recurses := true, named := ["math/bits.deBruijn64tab", "mezzanine/csrno.rows"], apart := false, laid := [("math/bits.deBruijn64tab", laid_math_bits_deBruijn64tab), ("mezzanine/csrno.rows", laid_mezzanine_csrno_rows)] }
def IrqAskedSaid : Prop := irqAskedRow.holds Tryd.pinned (OpenSpec.ofChange irqAskedSpec)

/-- ITS FALSE NEIGHBOUR: 'it returns false'. Refute it at one input. -/
def irqAskedWrong : ChangeSpec := { name := "irqAsked", fn := fun _ => fun
  | [d1, d2] => { results := [.lit (.bool false)], args := [d1, d2] }
  | _ => none }
def IrqAskedWrongFalsely : Prop := irqAskedRow.holds Tryd.pinned (OpenSpec.ofChange irqAskedWrong)

/- THE SECOND FORM. 'bulk': how many values and letters a reading holds, each counted each time it is reached (what is shared counts as often as it is met; a slice's spare places count too). A statement '..UptoSaid' is the law's where the arguments, and the package variables that the reading takes, are together of bulk at most 1048576: NARROWER than '..Said'. Prove '..Said' where nothing that the law and all that it calls make is longer than what came in: it says more and counts as full. Else prove '..UptoSaid'. A law counts once. -/
mutual
def uptoBulk {H : Type} : DataW H → Nat
  | .lit (.string bytes) => bytes.length + 1
  | .lit _ => 1
  | .nil => 1
  | .ptr d => uptoBulk d + 1
  | .slice elems spare => uptoBulkAll elems + uptoBulkAll spare + 1
  | .agg parts => uptoBulkAll parts + 1
  | .iface _ d => uptoBulk d + 1
  | .map entries => uptoBulkEntries entries + 1
  | .held _ => 1
def uptoBulkAll {H : Type} : List (DataW H) → Nat
  | [] => 0
  | d :: r => uptoBulk d + uptoBulkAll r
def uptoBulkEntries {H : Type} : List (Lit × DataW H) → Nat
  | [] => 0
  | x :: r => uptoBulkEntry x + uptoBulkEntries r
def uptoBulkEntry {H : Type} : Lit × DataW H → Nat
  | (.string bytes, d) => bytes.length + uptoBulk d + 1
  | (_, d) => uptoBulk d + 1
 end
def uptoSmall : (H : Type) → List (DataW H) → Bool := fun _ ds => decide (uptoBulkAll ds ≤ 1048576)
def OpenSpec.upto (s : _root_.Go.ChangeSpec) : _root_.Go.OpenSpec := { _root_.Go.OpenSpec.ofChange s with cond := some uptoSmall }

/-- 'mezzaninelaw13.IrqGuests', WHERE WHAT IT READS IS OF BULK AT MOST 1048576: true; the input reads as it did. -/
def irqGuestsUptoRow : OpenClaim := { program := "ytpbodidpcbodaaadoor", sum := "eab8de74cbb0b3b838db35191c1d57fef6162de64bfb91f59b8f81ab5be29c36", func := "mezzanine/mezzaninelaw13.IrqGuests", spec := "irqGuests", unfollowed := true, recurses := true, named := ["math/bits.deBruijn64tab", "mezzanine/csrno.rows"], apart := false, laid := [("math/bits.deBruijn64tab", laid_math_bits_deBruijn64tab), ("mezzanine/csrno.rows", laid_mezzanine_csrno_rows)], narrowed := true }
def IrqGuestsUptoSaid : Prop := irqGuestsUptoRow.holds Tryd.pinned (OpenSpec.upto irqGuestsSpec)

/-- 'mezzaninelaw13.IrqFewer', WHERE WHAT IT READS IS OF BULK AT MOST 1048576: true; the input reads as it did. -/
def irqFewerUptoRow : OpenClaim := { program := "ytpbodidpcbodaaadoor", sum := "eab8de74cbb0b3b838db35191c1d57fef6162de64bfb91f59b8f81ab5be29c36", func := "mezzanine/mezzaninelaw13.IrqFewer", spec := "irqFewer", unfollowed := true, recurses := true, named := ["math/bits.deBruijn64tab", "mezzanine/csrno.rows"], apart := false, laid := [("math/bits.deBruijn64tab", laid_math_bits_deBruijn64tab), ("mezzanine/csrno.rows", laid_mezzanine_csrno_rows)], narrowed := true }
def IrqFewerUptoSaid : Prop := irqFewerUptoRow.holds Tryd.pinned (OpenSpec.upto irqFewerSpec)

/-- 'mezzaninelaw13.IrqNexts', WHERE WHAT IT READS IS OF BULK AT MOST 1048576: true; the input reads as it did. -/
def irqNextsUptoRow : OpenClaim := { program := "ytpbodidpcbodaaadoor", sum := "eab8de74cbb0b3b838db35191c1d57fef6162de64bfb91f59b8f81ab5be29c36", func := "mezzanine/mezzaninelaw13.IrqNexts", spec := "irqNexts", unfollowed := true, recurses := true, named := ["math/bits.deBruijn64tab", "mezzanine/csrno.rows"], apart := false, laid := [("math/bits.deBruijn64tab", laid_math_bits_deBruijn64tab), ("mezzanine/csrno.rows", laid_mezzanine_csrno_rows)], narrowed := true }
def IrqNextsUptoSaid : Prop := irqNextsUptoRow.holds Tryd.pinned (OpenSpec.upto irqNextsSpec)

/-- 'mezzaninelaw13.IrqAsked', WHERE WHAT IT READS IS OF BULK AT MOST 1048576: true; the input reads as it did. -/
def irqAskedUptoRow : OpenClaim := { program := "ytpbodidpcbodaaadoor", sum := "eab8de74cbb0b3b838db35191c1d57fef6162de64bfb91f59b8f81ab5be29c36", func := "mezzanine/mezzaninelaw13.IrqAsked", spec := "irqAsked", unfollowed := true, recurses := true, named := ["math/bits.deBruijn64tab", "mezzanine/csrno.rows"], apart := false, laid := [("math/bits.deBruijn64tab", laid_math_bits_deBruijn64tab), ("mezzanine/csrno.rows", laid_mezzanine_csrno_rows)], narrowed := true }
def IrqAskedUptoSaid : Prop := irqAskedUptoRow.holds Tryd.pinned (OpenSpec.upto irqAskedSpec)

end Rows
end Go.Proofs.YtpbodidpcbodaaaDoor
