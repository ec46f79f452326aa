/-
  NARROWER THAN 'FOR EVERY INPUT', by the rows' own cells (each row's printed sentence says how): TrapBack: laid · TrapUp: laid.
  DERIVED. THE GIVEN ROWS OF THIS SEAT. 2 by the template 'for every input the law returns true; each argument reads behind the call as it read before'; 0 by the template 'total and deterministic' (their statements: YtfehchhmghpfpaaDoorTotals.lean).
  GIVEN WITH THE SEED: the statements are not yours to turn. If you find one false, say at which input.
  Laid BY PROGRAM, IN A SANDBOX (cutbox-rows.mjs): the forced cells as the released guide's own fill.sh prints them over the translation 0b9f37394ea293b6… (all of the seat's roots in one cut). By AI agents, Wed Nov 11 2026. No macro, syntax, notation, axiom, sorry.
-/
import Derived.Test.YtfehchhmghpfpaaDoorChecked
import GoSem.Claim
import GoSem.ClaimJoined
import GoSem.ClaimMapViews
import Derived.JoinedTies
import Derived.KernelRfl
namespace Go.Proofs.YtfehchhmghpfpaaDoor
/- THE CELL 'sum', in the pinned program and in every row, IS THE sha256 OF THE DUMP (.gsa) THAT YtfehchhmghpfpaaDoorProg.lean LOADS. Nothing in Lean hashes anything: it is a label: what it is worth is what the hold of that sum in a sandbox is worth. -/
noncomputable def Tryd.pinned : Pinned := { name := "ytfehchhmghpfpaadoor", sum := "0b9f37394ea293b6ff659a2aee8e23c5926963ed68df5033411f02e6283e66cf", checked := Tryd.checked }
namespace Rows
def none {H : Type} : Left H := { results := [], args := [] }

/- WHAT THE LISTED PACKAGE-LEVEL VARIABLES READ AS WHEN THE CALL BEGINS. Each datum BY PROGRAM (the guide's laid-datum.mjs) off the statement by which the dump's own 'gosem.cut.vars' lays the variable. In a bare row this is a premise. The card (YtfehchhmghpfpaaDoorCards.lean) ties it to the program's text. -/
def laid_mezzanine_csrno_rows {H : Type} : DataW H := .agg [.agg [.lit (.int .i64 256), .lit (.string [115, 115, 116, 97, 116, 117, 115])], .agg [.lit (.int .i64 260), .lit (.string [115, 105, 101])], .agg [.lit (.int .i64 261), .lit (.string [115, 116, 118, 101, 99])], .agg [.lit (.int .i64 262), .lit (.string [115, 99, 111, 117, 110, 116, 101, 114, 101, 110])], .agg [.lit (.int .i64 320), .lit (.string [115, 115, 99, 114, 97, 116, 99, 104])], .agg [.lit (.int .i64 321), .lit (.string [115, 101, 112, 99])], .agg [.lit (.int .i64 322), .lit (.string [115, 99, 97, 117, 115, 101])], .agg [.lit (.int .i64 323), .lit (.string [115, 116, 118, 97, 108])], .agg [.lit (.int .i64 324), .lit (.string [115, 105, 112])], .agg [.lit (.int .i64 384), .lit (.string [115, 97, 116, 112])], .agg [.lit (.int .i64 512), .lit (.string [118, 115, 115, 116, 97, 116, 117, 115])], .agg [.lit (.int .i64 516), .lit (.string [118, 115, 105, 101])], .agg [.lit (.int .i64 517), .lit (.string [118, 115, 116, 118, 101, 99])], .agg [.lit (.int .i64 576), .lit (.string [118, 115, 115, 99, 114, 97, 116, 99, 104])], .agg [.lit (.int .i64 577), .lit (.string [118, 115, 101, 112, 99])], .agg [.lit (.int .i64 578), .lit (.string [118, 115, 99, 97, 117, 115, 101])], .agg [.lit (.int .i64 579), .lit (.string [118, 115, 116, 118, 97, 108])], .agg [.lit (.int .i64 580), .lit (.string [118, 115, 105, 112])], .agg [.lit (.int .i64 640), .lit (.string [118, 115, 97, 116, 112])], .agg [.lit (.int .i64 768), .lit (.string [109, 115, 116, 97, 116, 117, 115])], .agg [.lit (.int .i64 769), .lit (.string [109, 105, 115, 97])], .agg [.lit (.int .i64 770), .lit (.string [109, 101, 100, 101, 108, 101, 103])], .agg [.lit (.int .i64 771), .lit (.string [109, 105, 100, 101, 108, 101, 103])], .agg [.lit (.int .i64 772), .lit (.string [109, 105, 101])], .agg [.lit (.int .i64 773), .lit (.string [109, 116, 118, 101, 99])], .agg [.lit (.int .i64 774), .lit (.string [109, 99, 111, 117, 110, 116, 101, 114, 101, 110])], .agg [.lit (.int .i64 832), .lit (.string [109, 115, 99, 114, 97, 116, 99, 104])], .agg [.lit (.int .i64 833), .lit (.string [109, 101, 112, 99])], .agg [.lit (.int .i64 834), .lit (.string [109, 99, 97, 117, 115, 101])], .agg [.lit (.int .i64 835), .lit (.string [109, 116, 118, 97, 108])], .agg [.lit (.int .i64 836), .lit (.string [109, 105, 112])], .agg [.lit (.int .i64 842), .lit (.string [109, 116, 105, 110, 115, 116])], .agg [.lit (.int .i64 843), .lit (.string [109, 116, 118, 97, 108, 50])], .agg [.lit (.int .i64 1536), .lit (.string [104, 115, 116, 97, 116, 117, 115])], .agg [.lit (.int .i64 1538), .lit (.string [104, 101, 100, 101, 108, 101, 103])], .agg [.lit (.int .i64 1539), .lit (.string [104, 105, 100, 101, 108, 101, 103])], .agg [.lit (.int .i64 1540), .lit (.string [104, 105, 101])], .agg [.lit (.int .i64 1541), .lit (.string [104, 116, 105, 109, 101, 100, 101, 108, 116, 97])], .agg [.lit (.int .i64 1542), .lit (.string [104, 99, 111, 117, 110, 116, 101, 114, 101, 110])], .agg [.lit (.int .i64 1543), .lit (.string [104, 103, 101, 105, 101])], .agg [.lit (.int .i64 1603), .lit (.string [104, 116, 118, 97, 108])], .agg [.lit (.int .i64 1604), .lit (.string [104, 105, 112])], .agg [.lit (.int .i64 1605), .lit (.string [104, 118, 105, 112])], .agg [.lit (.int .i64 1610), .lit (.string [104, 116, 105, 110, 115, 116])], .agg [.lit (.int .i64 1664), .lit (.string [104, 103, 97, 116, 112])], .agg [.lit (.int .i64 2816), .lit (.string [109, 99, 121, 99, 108, 101])], .agg [.lit (.int .i64 2818), .lit (.string [109, 105, 110, 115, 116, 114, 101, 116])], .agg [.lit (.int .i64 3072), .lit (.string [99, 121, 99, 108, 101])], .agg [.lit (.int .i64 3073), .lit (.string [116, 105, 109, 101])], .agg [.lit (.int .i64 3074), .lit (.string [105, 110, 115, 116, 114, 101, 116])], .agg [.lit (.int .i64 3602), .lit (.string [104, 103, 101, 105, 112])], .agg [.lit (.int .i64 3857), .lit (.string [109, 118, 101, 110, 100, 111, 114, 105, 100])], .agg [.lit (.int .i64 3858), .lit (.string [109, 97, 114, 99, 104, 105, 100])], .agg [.lit (.int .i64 3859), .lit (.string [109, 105, 109, 112, 105, 100])], .agg [.lit (.int .i64 3860), .lit (.string [109, 104, 97, 114, 116, 105, 100])], .agg [.lit (.int .i64 3861), .lit (.string [109, 99, 111, 110, 102, 105, 103, 112, 116, 114])]]

/-- 'mezzaninelaw14.TrapBack': WHATEVER THE INPUT: true; the input reads as it did. -/
def trapBackSpec : ChangeSpec := { name := "trapBack", fn := fun _ => fun
  | [d1, d2] => { results := [.lit (.bool true)], args := [d1, d2] }
  | _ => none }
def trapBackRow : OpenClaim := { program := "ytfehchhmghpfpaadoor", sum := "0b9f37394ea293b6ff659a2aee8e23c5926963ed68df5033411f02e6283e66cf", func := "mezzanine/mezzaninelaw14.TrapBack", spec := "trapBack", named := ["mezzanine/csrno.rows"], apart := false, laid := [("mezzanine/csrno.rows", laid_mezzanine_csrno_rows)] }
def TrapBackSaid : Prop := trapBackRow.holds Tryd.pinned (OpenSpec.ofChange trapBackSpec)

/-- ITS FALSE NEIGHBOUR: 'it returns false'. Refute it at one input. -/
def trapBackWrong : ChangeSpec := { name := "trapBack", fn := fun _ => fun
  | [d1, d2] => { results := [.lit (.bool false)], args := [d1, d2] }
  | _ => none }
def TrapBackWrongFalsely : Prop := trapBackRow.holds Tryd.pinned (OpenSpec.ofChange trapBackWrong)

/-- 'mezzaninelaw14.TrapUp': WHATEVER THE INPUT: true; the input reads as it did. -/
def trapUpSpec : ChangeSpec := { name := "trapUp", fn := fun _ => fun
  | [d1, d2] => { results := [.lit (.bool true)], args := [d1, d2] }
  | _ => none }
def trapUpRow : OpenClaim := { program := "ytfehchhmghpfpaadoor", sum := "0b9f37394ea293b6ff659a2aee8e23c5926963ed68df5033411f02e6283e66cf", func := "mezzanine/mezzaninelaw14.TrapUp", spec := "trapUp", named := ["mezzanine/csrno.rows"], apart := false, laid := [("mezzanine/csrno.rows", laid_mezzanine_csrno_rows)] }
def TrapUpSaid : Prop := trapUpRow.holds Tryd.pinned (OpenSpec.ofChange trapUpSpec)

/-- ITS FALSE NEIGHBOUR: 'it returns false'. Refute it at one input. -/
def trapUpWrong : ChangeSpec := { name := "trapUp", fn := fun _ => fun
  | [d1, d2] => { results := [.lit (.bool false)], args := [d1, d2] }
  | _ => none }
def TrapUpWrongFalsely : Prop := trapUpRow.holds Tryd.pinned (OpenSpec.ofChange trapUpWrong)

/- THE SECOND FORM. 'bulk': how many values and letters a reading holds, each counted each time it is reached (what is shared counts as often as it is met; a slice's spare places count too). A statement '..UptoSaid' is the law's where the arguments, and the package variables that the reading takes, are together of bulk at most 1048576: NARROWER than '..Said'. Prove '..Said' where nothing that the law and all that it calls make is longer than what came in: it says more and counts as full. Else prove '..UptoSaid'. A law counts once. -/
mutual
def uptoBulk {H : Type} : DataW H → Nat
  | .lit (.string bytes) => bytes.length + 1
  | .lit _ => 1
  | .nil => 1
  | .ptr d => uptoBulk d + 1
  | .slice elems spare => uptoBulkAll elems + uptoBulkAll spare + 1
  | .agg parts => uptoBulkAll parts + 1
  | .iface _ d => uptoBulk d + 1
  | .map entries => uptoBulkEntries entries + 1
  | .held _ => 1
def uptoBulkAll {H : Type} : List (DataW H) → Nat
  | [] => 0
  | d :: r => uptoBulk d + uptoBulkAll r
def uptoBulkEntries {H : Type} : List (Lit × DataW H) → Nat
  | [] => 0
  | x :: r => uptoBulkEntry x + uptoBulkEntries r
def uptoBulkEntry {H : Type} : Lit × DataW H → Nat
  | (.string bytes, d) => bytes.length + uptoBulk d + 1
  | (_, d) => uptoBulk d + 1
 end
def uptoSmall : (H : Type) → List (DataW H) → Bool := fun _ ds => decide (uptoBulkAll ds ≤ 1048576)
def OpenSpec.upto (s : _root_.Go.ChangeSpec) : _root_.Go.OpenSpec := { _root_.Go.OpenSpec.ofChange s with cond := some uptoSmall }

/-- 'mezzaninelaw14.TrapBack', WHERE WHAT IT READS IS OF BULK AT MOST 1048576: true; the input reads as it did. -/
def trapBackUptoRow : OpenClaim := { program := "ytfehchhmghpfpaadoor", sum := "0b9f37394ea293b6ff659a2aee8e23c5926963ed68df5033411f02e6283e66cf", func := "mezzanine/mezzaninelaw14.TrapBack", spec := "trapBack", named := ["mezzanine/csrno.rows"], apart := false, laid := [("mezzanine/csrno.rows", laid_mezzanine_csrno_rows)], narrowed := true }
def TrapBackUptoSaid : Prop := trapBackUptoRow.holds Tryd.pinned (OpenSpec.upto trapBackSpec)

/-- 'mezzaninelaw14.TrapUp', WHERE WHAT IT READS IS OF BULK AT MOST 1048576: true; the input reads as it did. -/
def trapUpUptoRow : OpenClaim := { program := "ytfehchhmghpfpaadoor", sum := "0b9f37394ea293b6ff659a2aee8e23c5926963ed68df5033411f02e6283e66cf", func := "mezzanine/mezzaninelaw14.TrapUp", spec := "trapUp", named := ["mezzanine/csrno.rows"], apart := false, laid := [("mezzanine/csrno.rows", laid_mezzanine_csrno_rows)], narrowed := true }
def TrapUpUptoSaid : Prop := trapUpUptoRow.holds Tryd.pinned (OpenSpec.upto trapUpSpec)

end Rows
end Go.Proofs.YtfehchhmghpfpaaDoor
