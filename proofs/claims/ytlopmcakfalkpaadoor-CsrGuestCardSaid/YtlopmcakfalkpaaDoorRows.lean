/-
  NARROWER THAN 'FOR EVERY INPUT', by the rows' own cells (each row's printed sentence says how): CsrReads: laid · CsrSame: laid · CsrWrites: laid · CsrFixes: laid · CsrLegals: laid · CsrViews: laid · CsrAgain: laid · CsrGuest: laid.
  DERIVED. THE GIVEN ROWS OF THIS SEAT. 8 by the template 'for every input the law returns true; each argument reads behind the call as it read before'; 0 by the template 'total and deterministic' (their statements: YtlopmcakfalkpaaDoorTotals.lean).
  GIVEN WITH THE SEED: the statements are not yours to turn. If you find one false, say at which input.
  Laid BY PROGRAM, IN A SANDBOX (cutbox-rows.mjs): the forced cells as the released guide's own fill.sh prints them over the translation 2630f6a561a77027… (all of the seat's roots in one cut). By AI agents, Wed Nov 11 2026. No macro, syntax, notation, axiom, sorry.
-/
import Derived.Test.YtlopmcakfalkpaaDoorChecked
import GoSem.Claim
import GoSem.ClaimJoined
import GoSem.ClaimMapViews
import Derived.JoinedTies
import Derived.KernelRfl
namespace Go.Proofs.YtlopmcakfalkpaaDoor
/- THE CELL 'sum', in the pinned program and in every row, IS THE sha256 OF THE DUMP (.gsa) THAT YtlopmcakfalkpaaDoorProg.lean LOADS. Nothing in Lean hashes anything: it is a label: what it is worth is what the hold of that sum in a sandbox is worth. -/
noncomputable def Tryd.pinned : Pinned := { name := "ytlopmcakfalkpaadoor", sum := "2630f6a561a77027352f001961001e6351af7b01fa3e076b8b96050090650f6a", checked := Tryd.checked }
namespace Rows
def none {H : Type} : Left H := { results := [], args := [] }

/- WHAT THE LISTED PACKAGE-LEVEL VARIABLES READ AS WHEN THE CALL BEGINS. Each datum BY PROGRAM (the guide's laid-datum.mjs) off the statement by which the dump's own 'gosem.cut.vars' lays the variable. In a bare row this is a premise. The card (YtlopmcakfalkpaaDoorCards.lean) ties it to the program's text. -/
def laid_mezzanine_csrno_rows {H : Type} : DataW H := .agg [.agg [.lit (.int .i64 256), .lit (.string [115, 115, 116, 97, 116, 117, 115])], .agg [.lit (.int .i64 260), .lit (.string [115, 105, 101])], .agg [.lit (.int .i64 261), .lit (.string [115, 116, 118, 101, 99])], .agg [.lit (.int .i64 262), .lit (.string [115, 99, 111, 117, 110, 116, 101, 114, 101, 110])], .agg [.lit (.int .i64 320), .lit (.string [115, 115, 99, 114, 97, 116, 99, 104])], .agg [.lit (.int .i64 321), .lit (.string [115, 101, 112, 99])], .agg [.lit (.int .i64 322), .lit (.string [115, 99, 97, 117, 115, 101])], .agg [.lit (.int .i64 323), .lit (.string [115, 116, 118, 97, 108])], .agg [.lit (.int .i64 324), .lit (.string [115, 105, 112])], .agg [.lit (.int .i64 384), .lit (.string [115, 97, 116, 112])], .agg [.lit (.int .i64 512), .lit (.string [118, 115, 115, 116, 97, 116, 117, 115])], .agg [.lit (.int .i64 516), .lit (.string [118, 115, 105, 101])], .agg [.lit (.int .i64 517), .lit (.string [118, 115, 116, 118, 101, 99])], .agg [.lit (.int .i64 576), .lit (.string [118, 115, 115, 99, 114, 97, 116, 99, 104])], .agg [.lit (.int .i64 577), .lit (.string [118, 115, 101, 112, 99])], .agg [.lit (.int .i64 578), .lit (.string [118, 115, 99, 97, 117, 115, 101])], .agg [.lit (.int .i64 579), .lit (.string [118, 115, 116, 118, 97, 108])], .agg [.lit (.int .i64 580), .lit (.string [118, 115, 105, 112])], .agg [.lit (.int .i64 640), .lit (.string [118, 115, 97, 116, 112])], .agg [.lit (.int .i64 768), .lit (.string [109, 115, 116, 97, 116, 117, 115])], .agg [.lit (.int .i64 769), .lit (.string [109, 105, 115, 97])], .agg [.lit (.int .i64 770), .lit (.string [109, 101, 100, 101, 108, 101, 103])], .agg [.lit (.int .i64 771), .lit (.string [109, 105, 100, 101, 108, 101, 103])], .agg [.lit (.int .i64 772), .lit (.string [109, 105, 101])], .agg [.lit (.int .i64 773), .lit (.string [109, 116, 118, 101, 99])], .agg [.lit (.int .i64 774), .lit (.string [109, 99, 111, 117, 110, 116, 101, 114, 101, 110])], .agg [.lit (.int .i64 832), .lit (.string [109, 115, 99, 114, 97, 116, 99, 104])], .agg [.lit (.int .i64 833), .lit (.string [109, 101, 112, 99])], .agg [.lit (.int .i64 834), .lit (.string [109, 99, 97, 117, 115, 101])], .agg [.lit (.int .i64 835), .lit (.string [109, 116, 118, 97, 108])], .agg [.lit (.int .i64 836), .lit (.string [109, 105, 112])], .agg [.lit (.int .i64 842), .lit (.string [109, 116, 105, 110, 115, 116])], .agg [.lit (.int .i64 843), .lit (.string [109, 116, 118, 97, 108, 50])], .agg [.lit (.int .i64 1536), .lit (.string [104, 115, 116, 97, 116, 117, 115])], .agg [.lit (.int .i64 1538), .lit (.string [104, 101, 100, 101, 108, 101, 103])], .agg [.lit (.int .i64 1539), .lit (.string [104, 105, 100, 101, 108, 101, 103])], .agg [.lit (.int .i64 1540), .lit (.string [104, 105, 101])], .agg [.lit (.int .i64 1541), .lit (.string [104, 116, 105, 109, 101, 100, 101, 108, 116, 97])], .agg [.lit (.int .i64 1542), .lit (.string [104, 99, 111, 117, 110, 116, 101, 114, 101, 110])], .agg [.lit (.int .i64 1543), .lit (.string [104, 103, 101, 105, 101])], .agg [.lit (.int .i64 1603), .lit (.string [104, 116, 118, 97, 108])], .agg [.lit (.int .i64 1604), .lit (.string [104, 105, 112])], .agg [.lit (.int .i64 1605), .lit (.string [104, 118, 105, 112])], .agg [.lit (.int .i64 1610), .lit (.string [104, 116, 105, 110, 115, 116])], .agg [.lit (.int .i64 1664), .lit (.string [104, 103, 97, 116, 112])], .agg [.lit (.int .i64 2816), .lit (.string [109, 99, 121, 99, 108, 101])], .agg [.lit (.int .i64 2818), .lit (.string [109, 105, 110, 115, 116, 114, 101, 116])], .agg [.lit (.int .i64 3072), .lit (.string [99, 121, 99, 108, 101])], .agg [.lit (.int .i64 3073), .lit (.string [116, 105, 109, 101])], .agg [.lit (.int .i64 3074), .lit (.string [105, 110, 115, 116, 114, 101, 116])], .agg [.lit (.int .i64 3602), .lit (.string [104, 103, 101, 105, 112])], .agg [.lit (.int .i64 3857), .lit (.string [109, 118, 101, 110, 100, 111, 114, 105, 100])], .agg [.lit (.int .i64 3858), .lit (.string [109, 97, 114, 99, 104, 105, 100])], .agg [.lit (.int .i64 3859), .lit (.string [109, 105, 109, 112, 105, 100])], .agg [.lit (.int .i64 3860), .lit (.string [109, 104, 97, 114, 116, 105, 100])], .agg [.lit (.int .i64 3861), .lit (.string [109, 99, 111, 110, 102, 105, 103, 112, 116, 114])]]

/-- 'mezzaninelaw12.CsrReads': WHATEVER THE INPUT: true; the input reads as it did. -/
def csrReadsSpec : ChangeSpec := { name := "csrReads", fn := fun _ => fun
  | [d1, d2, d3] => { results := [.lit (.bool true)], args := [d1, d2, d3] }
  | _ => none }
def csrReadsRow : OpenClaim := { program := "ytlopmcakfalkpaadoor", sum := "2630f6a561a77027352f001961001e6351af7b01fa3e076b8b96050090650f6a", func := "mezzanine/mezzaninelaw12.CsrReads", spec := "csrReads", named := ["mezzanine/csrno.rows"], apart := false, laid := [("mezzanine/csrno.rows", laid_mezzanine_csrno_rows)] }
def CsrReadsSaid : Prop := csrReadsRow.holds Tryd.pinned (OpenSpec.ofChange csrReadsSpec)

/-- ITS FALSE NEIGHBOUR: 'it returns false'. Refute it at one input. -/
def csrReadsWrong : ChangeSpec := { name := "csrReads", fn := fun _ => fun
  | [d1, d2, d3] => { results := [.lit (.bool false)], args := [d1, d2, d3] }
  | _ => none }
def CsrReadsWrongFalsely : Prop := csrReadsRow.holds Tryd.pinned (OpenSpec.ofChange csrReadsWrong)

/-- 'mezzaninelaw12.CsrSame': WHATEVER THE INPUT: true; the input reads as it did. -/
def csrSameSpec : ChangeSpec := { name := "csrSame", fn := fun _ => fun
  | [d1, d2, d3] => { results := [.lit (.bool true)], args := [d1, d2, d3] }
  | _ => none }
def csrSameRow : OpenClaim := { program := "ytlopmcakfalkpaadoor", sum := "2630f6a561a77027352f001961001e6351af7b01fa3e076b8b96050090650f6a", func := "mezzanine/mezzaninelaw12.CsrSame", spec := "csrSame", named := ["mezzanine/csrno.rows"], apart := false, laid := [("mezzanine/csrno.rows", laid_mezzanine_csrno_rows)] }
def CsrSameSaid : Prop := csrSameRow.holds Tryd.pinned (OpenSpec.ofChange csrSameSpec)

/-- ITS FALSE NEIGHBOUR: 'it returns false'. Refute it at one input. -/
def csrSameWrong : ChangeSpec := { name := "csrSame", fn := fun _ => fun
  | [d1, d2, d3] => { results := [.lit (.bool false)], args := [d1, d2, d3] }
  | _ => none }
def CsrSameWrongFalsely : Prop := csrSameRow.holds Tryd.pinned (OpenSpec.ofChange csrSameWrong)

/-- 'mezzaninelaw12.CsrWrites': WHATEVER THE INPUT: true; the input reads as it did. -/
def csrWritesSpec : ChangeSpec := { name := "csrWrites", fn := fun _ => fun
  | [d1, d2, d3, d4] => { results := [.lit (.bool true)], args := [d1, d2, d3, d4] }
  | _ => none }
def csrWritesRow : OpenClaim := { program := "ytlopmcakfalkpaadoor", sum := "2630f6a561a77027352f001961001e6351af7b01fa3e076b8b96050090650f6a", func := "mezzanine/mezzaninelaw12.CsrWrites", spec := "csrWrites", named := ["mezzanine/csrno.rows"], apart := false, laid := [("mezzanine/csrno.rows", laid_mezzanine_csrno_rows)] }
def CsrWritesSaid : Prop := csrWritesRow.holds Tryd.pinned (OpenSpec.ofChange csrWritesSpec)

/-- ITS FALSE NEIGHBOUR: 'it returns false'. Refute it at one input. -/
def csrWritesWrong : ChangeSpec := { name := "csrWrites", fn := fun _ => fun
  | [d1, d2, d3, d4] => { results := [.lit (.bool false)], args := [d1, d2, d3, d4] }
  | _ => none }
def CsrWritesWrongFalsely : Prop := csrWritesRow.holds Tryd.pinned (OpenSpec.ofChange csrWritesWrong)

/-- 'mezzaninelaw12.CsrFixes': WHATEVER THE INPUT: true; the input reads as it did. -/
def csrFixesSpec : ChangeSpec := { name := "csrFixes", fn := fun _ => fun
  | [d] => { results := [.lit (.bool true)], args := [d] }
  | _ => none }
def csrFixesRow : OpenClaim := { program := "ytlopmcakfalkpaadoor", sum := "2630f6a561a77027352f001961001e6351af7b01fa3e076b8b96050090650f6a", func := "mezzanine/mezzaninelaw12.CsrFixes", spec := "csrFixes", named := ["mezzanine/csrno.rows"], apart := false, laid := [("mezzanine/csrno.rows", laid_mezzanine_csrno_rows)] }
def CsrFixesSaid : Prop := csrFixesRow.holds Tryd.pinned (OpenSpec.ofChange csrFixesSpec)

/-- ITS FALSE NEIGHBOUR: 'it returns false'. Refute it at one input. -/
def csrFixesWrong : ChangeSpec := { name := "csrFixes", fn := fun _ => fun
  | [d] => { results := [.lit (.bool false)], args := [d] }
  | _ => none }
def CsrFixesWrongFalsely : Prop := csrFixesRow.holds Tryd.pinned (OpenSpec.ofChange csrFixesWrong)

/-- 'mezzaninelaw12.CsrLegals': WHATEVER THE INPUT: true; the input reads as it did. -/
def csrLegalsSpec : ChangeSpec := { name := "csrLegals", fn := fun _ => fun
  | [d1, d2, d3, d4] => { results := [.lit (.bool true)], args := [d1, d2, d3, d4] }
  | _ => none }
def csrLegalsRow : OpenClaim := { program := "ytlopmcakfalkpaadoor", sum := "2630f6a561a77027352f001961001e6351af7b01fa3e076b8b96050090650f6a", func := "mezzanine/mezzaninelaw12.CsrLegals", spec := "csrLegals", named := ["mezzanine/csrno.rows"], apart := false, laid := [("mezzanine/csrno.rows", laid_mezzanine_csrno_rows)] }
def CsrLegalsSaid : Prop := csrLegalsRow.holds Tryd.pinned (OpenSpec.ofChange csrLegalsSpec)

/-- ITS FALSE NEIGHBOUR: 'it returns false'. Refute it at one input. -/
def csrLegalsWrong : ChangeSpec := { name := "csrLegals", fn := fun _ => fun
  | [d1, d2, d3, d4] => { results := [.lit (.bool false)], args := [d1, d2, d3, d4] }
  | _ => none }
def CsrLegalsWrongFalsely : Prop := csrLegalsRow.holds Tryd.pinned (OpenSpec.ofChange csrLegalsWrong)

/-- 'mezzaninelaw12.CsrViews': WHATEVER THE INPUT: true; the input reads as it did. -/
def csrViewsSpec : ChangeSpec := { name := "csrViews", fn := fun _ => fun
  | [d1, d2] => { results := [.lit (.bool true)], args := [d1, d2] }
  | _ => none }
def csrViewsRow : OpenClaim := { program := "ytlopmcakfalkpaadoor", sum := "2630f6a561a77027352f001961001e6351af7b01fa3e076b8b96050090650f6a", func := "mezzanine/mezzaninelaw12.CsrViews", spec := "csrViews", unfollowed := true, recurses := true, named := ["mezzanine/csrno.rows"], apart := false, laid := [("mezzanine/csrno.rows", laid_mezzanine_csrno_rows)] }
def CsrViewsSaid : Prop := csrViewsRow.holds Tryd.pinned (OpenSpec.ofChange csrViewsSpec)

/-- ITS FALSE NEIGHBOUR: 'it returns false'. Refute it at one input. -/
def csrViewsWrong : ChangeSpec := { name := "csrViews", fn := fun _ => fun
  | [d1, d2] => { results := [.lit (.bool false)], args := [d1, d2] }
  | _ => none }
def CsrViewsWrongFalsely : Prop := csrViewsRow.holds Tryd.pinned (OpenSpec.ofChange csrViewsWrong)

/-- 'mezzaninelaw12.CsrAgain': WHATEVER THE INPUT: true; the input reads as it did. -/
def csrAgainSpec : ChangeSpec := { name := "csrAgain", fn := fun _ => fun
  | [d1, d2, d3, d4, d5] => { results := [.lit (.bool true)], args := [d1, d2, d3, d4, d5] }
  | _ => none }
def csrAgainRow : OpenClaim := { program := "ytlopmcakfalkpaadoor", sum := "2630f6a561a77027352f001961001e6351af7b01fa3e076b8b96050090650f6a", func := "mezzanine/mezzaninelaw12.CsrAgain", spec := "csrAgain", named := ["mezzanine/csrno.rows"], apart := false, laid := [("mezzanine/csrno.rows", laid_mezzanine_csrno_rows)] }
def CsrAgainSaid : Prop := csrAgainRow.holds Tryd.pinned (OpenSpec.ofChange csrAgainSpec)

/-- ITS FALSE NEIGHBOUR: 'it returns false'. Refute it at one input. -/
def csrAgainWrong : ChangeSpec := { name := "csrAgain", fn := fun _ => fun
  | [d1, d2, d3, d4, d5] => { results := [.lit (.bool false)], args := [d1, d2, d3, d4, d5] }
  | _ => none }
def CsrAgainWrongFalsely : Prop := csrAgainRow.holds Tryd.pinned (OpenSpec.ofChange csrAgainWrong)

/-- 'mezzaninelaw12.CsrGuest': WHATEVER THE INPUT: true; the input reads as it did. -/
def csrGuestSpec : ChangeSpec := { name := "csrGuest", fn := fun _ => fun
  | [d1, d2, d3, d4] => { results := [.lit (.bool true)], args := [d1, d2, d3, d4] }
  | _ => none }
def csrGuestRow : OpenClaim := { program := "ytlopmcakfalkpaadoor", sum := "2630f6a561a77027352f001961001e6351af7b01fa3e076b8b96050090650f6a", func := "mezzanine/mezzaninelaw12.CsrGuest", spec := "csrGuest", named := ["mezzanine/csrno.rows"], apart := false, laid := [("mezzanine/csrno.rows", laid_mezzanine_csrno_rows)] }
def CsrGuestSaid : Prop := csrGuestRow.holds Tryd.pinned (OpenSpec.ofChange csrGuestSpec)

/-- ITS FALSE NEIGHBOUR: 'it returns false'. Refute it at one input. -/
def csrGuestWrong : ChangeSpec := { name := "csrGuest", fn := fun _ => fun
  | [d1, d2, d3, d4] => { results := [.lit (.bool false)], args := [d1, d2, d3, d4] }
  | _ => none }
def CsrGuestWrongFalsely : Prop := csrGuestRow.holds Tryd.pinned (OpenSpec.ofChange csrGuestWrong)

/- THE SECOND FORM. 'bulk': how many values and letters a reading holds, each counted each time it is reached (what is shared counts as often as it is met; a slice's spare places count too). A statement '..UptoSaid' is the law's where the arguments, and the package variables that the reading takes, are together of bulk at most 1048576: NARROWER than '..Said'. Prove '..Said' where nothing that the law and all that it calls make is longer than what came in: it says more and counts as full. Else prove '..UptoSaid'. A law counts once. -/
mutual
def uptoBulk {H : Type} : DataW H → Nat
  | .lit (.string bytes) => bytes.length + 1
  | .lit _ => 1
  | .nil => 1
  | .ptr d => uptoBulk d + 1
  | .slice elems spare => uptoBulkAll elems + uptoBulkAll spare + 1
  | .agg parts => uptoBulkAll parts + 1
  | .iface _ d => uptoBulk d + 1
  | .map entries => uptoBulkEntries entries + 1
  | .held _ => 1
def uptoBulkAll {H : Type} : List (DataW H) → Nat
  | [] => 0
  | d :: r => uptoBulk d + uptoBulkAll r
def uptoBulkEntries {H : Type} : List (Lit × DataW H) → Nat
  | [] => 0
  | x :: r => uptoBulkEntry x + uptoBulkEntries r
def uptoBulkEntry {H : Type} : Lit × DataW H → Nat
  | (.string bytes, d) => bytes.length + uptoBulk d + 1
  | (_, d) => uptoBulk d + 1
 end
def uptoSmall : (H : Type) → List (DataW H) → Bool := fun _ ds => decide (uptoBulkAll ds ≤ 1048576)
def OpenSpec.upto (s : _root_.Go.ChangeSpec) : _root_.Go.OpenSpec := { _root_.Go.OpenSpec.ofChange s with cond := some uptoSmall }

/-- 'mezzaninelaw12.CsrReads', WHERE WHAT IT READS IS OF BULK AT MOST 1048576: true; the input reads as it did. -/
def csrReadsUptoRow : OpenClaim := { program := "ytlopmcakfalkpaadoor", sum := "2630f6a561a77027352f001961001e6351af7b01fa3e076b8b96050090650f6a", func := "mezzanine/mezzaninelaw12.CsrReads", spec := "csrReads", named := ["mezzanine/csrno.rows"], apart := false, laid := [("mezzanine/csrno.rows", laid_mezzanine_csrno_rows)], narrowed := true }
def CsrReadsUptoSaid : Prop := csrReadsUptoRow.holds Tryd.pinned (OpenSpec.upto csrReadsSpec)

/-- 'mezzaninelaw12.CsrSame', WHERE WHAT IT READS IS OF BULK AT MOST 1048576: true; the input reads as it did. -/
def csrSameUptoRow : OpenClaim := { program := "ytlopmcakfalkpaadoor", sum := "2630f6a561a77027352f001961001e6351af7b01fa3e076b8b96050090650f6a", func := "mezzanine/mezzaninelaw12.CsrSame", spec := "csrSame", named := ["mezzanine/csrno.rows"], apart := false, laid := [("mezzanine/csrno.rows", laid_mezzanine_csrno_rows)], narrowed := true }
def CsrSameUptoSaid : Prop := csrSameUptoRow.holds Tryd.pinned (OpenSpec.upto csrSameSpec)

/-- 'mezzaninelaw12.CsrWrites', WHERE WHAT IT READS IS OF BULK AT MOST 1048576: true; the input reads as it did. -/
def csrWritesUptoRow : OpenClaim := { program := "ytlopmcakfalkpaadoor", sum := "2630f6a561a77027352f001961001e6351af7b01fa3e076b8b96050090650f6a", func := "mezzanine/mezzaninelaw12.CsrWrites", spec := "csrWrites", named := ["mezzanine/csrno.rows"], apart := false, laid := [("mezzanine/csrno.rows", laid_mezzanine_csrno_rows)], narrowed := true }
def CsrWritesUptoSaid : Prop := csrWritesUptoRow.holds Tryd.pinned (OpenSpec.upto csrWritesSpec)

/-- 'mezzaninelaw12.CsrFixes', WHERE WHAT IT READS IS OF BULK AT MOST 1048576: true; the input reads as it did. -/
def csrFixesUptoRow : OpenClaim := { program := "ytlopmcakfalkpaadoor", sum := "2630f6a561a77027352f001961001e6351af7b01fa3e076b8b96050090650f6a", func := "mezzanine/mezzaninelaw12.CsrFixes", spec := "csrFixes", named := ["mezzanine/csrno.rows"], apart := false, laid := [("mezzanine/csrno.rows", laid_mezzanine_csrno_rows)], narrowed := true }
def CsrFixesUptoSaid : Prop := csrFixesUptoRow.holds Tryd.pinned (OpenSpec.upto csrFixesSpec)

/-- 'mezzaninelaw12.CsrLegals', WHERE WHAT IT READS IS OF BULK AT MOST 1048576: true; the input reads as it did. -/
def csrLegalsUptoRow : OpenClaim := { program := "ytlopmcakfalkpaadoor", sum := "2630f6a561a77027352f001961001e6351af7b01fa3e076b8b96050090650f6a", func := "mezzanine/mezzaninelaw12.CsrLegals", spec := "csrLegals", named := ["mezzanine/csrno.rows"], apart := false, laid := [("mezzanine/csrno.rows", laid_mezzanine_csrno_rows)], narrowed := true }
def CsrLegalsUptoSaid : Prop := csrLegalsUptoRow.holds Tryd.pinned (OpenSpec.upto csrLegalsSpec)

/-- 'mezzaninelaw12.CsrViews', WHERE WHAT IT READS IS OF BULK AT MOST 1048576: true; the input reads as it did. -/
def csrViewsUptoRow : OpenClaim := { program := "ytlopmcakfalkpaadoor", sum := "2630f6a561a77027352f001961001e6351af7b01fa3e076b8b96050090650f6a", func := "mezzanine/mezzaninelaw12.CsrViews", spec := "csrViews", unfollowed := true, recurses := true, named := ["mezzanine/csrno.rows"], apart := false, laid := [("mezzanine/csrno.rows", laid_mezzanine_csrno_rows)], narrowed := true }
def CsrViewsUptoSaid : Prop := csrViewsUptoRow.holds Tryd.pinned (OpenSpec.upto csrViewsSpec)

/-- 'mezzaninelaw12.CsrAgain', WHERE WHAT IT READS IS OF BULK AT MOST 1048576: true; the input reads as it did. -/
def csrAgainUptoRow : OpenClaim := { program := "ytlopmcakfalkpaadoor", sum := "2630f6a561a77027352f001961001e6351af7b01fa3e076b8b96050090650f6a", func := "mezzanine/mezzaninelaw12.CsrAgain", spec := "csrAgain", named := ["mezzanine/csrno.rows"], apart := false, laid := [("mezzanine/csrno.rows", laid_mezzanine_csrno_rows)], narrowed := true }
def CsrAgainUptoSaid : Prop := csrAgainUptoRow.holds Tryd.pinned (OpenSpec.upto csrAgainSpec)

/-- 'mezzaninelaw12.CsrGuest', WHERE WHAT IT READS IS OF BULK AT MOST 1048576: true; the input reads as it did. -/
def csrGuestUptoRow : OpenClaim := { program := "ytlopmcakfalkpaadoor", sum := "2630f6a561a77027352f001961001e6351af7b01fa3e076b8b96050090650f6a", func := "mezzanine/mezzaninelaw12.CsrGuest", spec := "csrGuest", named := ["mezzanine/csrno.rows"], apart := false, laid := [("mezzanine/csrno.rows", laid_mezzanine_csrno_rows)], narrowed := true }
def CsrGuestUptoSaid : Prop := csrGuestUptoRow.holds Tryd.pinned (OpenSpec.upto csrGuestSpec)

end Rows
end Go.Proofs.YtlopmcakfalkpaaDoor
