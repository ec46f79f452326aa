/-
  NARROWER THAN 'FOR EVERY INPUT', by the rows' own cells (each row's printed sentence says how): CsrnoNames: laid · CsrnoChecks: laid · CsrnoRises: laid · CsrnoGuest: laid · CsrnoBack: laid · CsrnoAlls: laid.
  DERIVED. THE GIVEN ROWS OF THIS SEAT. 6 by the template 'for every input the law returns true; each argument reads behind the call as it read before'; 0 by the template 'total and deterministic' (their statements: YtbmmafebekehdaaDoorTotals.lean).
  GIVEN WITH THE SEED: the statements are not yours to turn. If you find one false, say at which input.
  Laid BY PROGRAM, IN A SANDBOX (cutbox-rows.mjs): the forced cells as the released guide's own fill.sh prints them over the translation b207ee66982873e8… (all of the seat's roots in one cut). By AI agents, Wed Nov 11 2026. No macro, syntax, notation, axiom, sorry.
-/
import Derived.Test.YtbmmafebekehdaaDoorChecked
import GoSem.Claim
import GoSem.ClaimJoined
import GoSem.ClaimMapViews
import Derived.JoinedTies
import Derived.KernelRfl
namespace Go.Proofs.YtbmmafebekehdaaDoor
/- THE CELL 'sum', in the pinned program and in every row, IS THE sha256 OF THE DUMP (.gsa) THAT YtbmmafebekehdaaDoorProg.lean LOADS. Nothing in Lean hashes anything: it is a label: what it is worth is what the hold of that sum in a sandbox is worth. -/
noncomputable def Tryd.pinned : Pinned := { name := "ytbmmafebekehdaadoor", sum := "b207ee66982873e880804e079bab49a07abe1bc7943e2d6fc382d55627381789", checked := Tryd.checked }
namespace Rows
def none {H : Type} : Left H := { results := [], args := [] }

/- WHAT THE LISTED PACKAGE-LEVEL VARIABLES READ AS WHEN THE CALL BEGINS. Each datum BY PROGRAM (the guide's laid-datum.mjs) off the statement by which the dump's own 'gosem.cut.vars' lays the variable. In a bare row this is a premise. The card (YtbmmafebekehdaaDoorCards.lean) ties it to the program's text. -/
def laid_mezzanine_csrno_rows {H : Type} : DataW H := .agg [.agg [.lit (.int .i64 256), .lit (.string [115, 115, 116, 97, 116, 117, 115])], .agg [.lit (.int .i64 260), .lit (.string [115, 105, 101])], .agg [.lit (.int .i64 261), .lit (.string [115, 116, 118, 101, 99])], .agg [.lit (.int .i64 262), .lit (.string [115, 99, 111, 117, 110, 116, 101, 114, 101, 110])], .agg [.lit (.int .i64 320), .lit (.string [115, 115, 99, 114, 97, 116, 99, 104])], .agg [.lit (.int .i64 321), .lit (.string [115, 101, 112, 99])], .agg [.lit (.int .i64 322), .lit (.string [115, 99, 97, 117, 115, 101])], .agg [.lit (.int .i64 323), .lit (.string [115, 116, 118, 97, 108])], .agg [.lit (.int .i64 324), .lit (.string [115, 105, 112])], .agg [.lit (.int .i64 384), .lit (.string [115, 97, 116, 112])], .agg [.lit (.int .i64 512), .lit (.string [118, 115, 115, 116, 97, 116, 117, 115])], .agg [.lit (.int .i64 516), .lit (.string [118, 115, 105, 101])], .agg [.lit (.int .i64 517), .lit (.string [118, 115, 116, 118, 101, 99])], .agg [.lit (.int .i64 576), .lit (.string [118, 115, 115, 99, 114, 97, 116, 99, 104])], .agg [.lit (.int .i64 577), .lit (.string [118, 115, 101, 112, 99])], .agg [.lit (.int .i64 578), .lit (.string [118, 115, 99, 97, 117, 115, 101])], .agg [.lit (.int .i64 579), .lit (.string [118, 115, 116, 118, 97, 108])], .agg [.lit (.int .i64 580), .lit (.string [118, 115, 105, 112])], .agg [.lit (.int .i64 640), .lit (.string [118, 115, 97, 116, 112])], .agg [.lit (.int .i64 768), .lit (.string [109, 115, 116, 97, 116, 117, 115])], .agg [.lit (.int .i64 769), .lit (.string [109, 105, 115, 97])], .agg [.lit (.int .i64 770), .lit (.string [109, 101, 100, 101, 108, 101, 103])], .agg [.lit (.int .i64 771), .lit (.string [109, 105, 100, 101, 108, 101, 103])], .agg [.lit (.int .i64 772), .lit (.string [109, 105, 101])], .agg [.lit (.int .i64 773), .lit (.string [109, 116, 118, 101, 99])], .agg [.lit (.int .i64 774), .lit (.string [109, 99, 111, 117, 110, 116, 101, 114, 101, 110])], .agg [.lit (.int .i64 832), .lit (.string [109, 115, 99, 114, 97, 116, 99, 104])], .agg [.lit (.int .i64 833), .lit (.string [109, 101, 112, 99])], .agg [.lit (.int .i64 834), .lit (.string [109, 99, 97, 117, 115, 101])], .agg [.lit (.int .i64 835), .lit (.string [109, 116, 118, 97, 108])], .agg [.lit (.int .i64 836), .lit (.string [109, 105, 112])], .agg [.lit (.int .i64 842), .lit (.string [109, 116, 105, 110, 115, 116])], .agg [.lit (.int .i64 843), .lit (.string [109, 116, 118, 97, 108, 50])], .agg [.lit (.int .i64 1536), .lit (.string [104, 115, 116, 97, 116, 117, 115])], .agg [.lit (.int .i64 1538), .lit (.string [104, 101, 100, 101, 108, 101, 103])], .agg [.lit (.int .i64 1539), .lit (.string [104, 105, 100, 101, 108, 101, 103])], .agg [.lit (.int .i64 1540), .lit (.string [104, 105, 101])], .agg [.lit (.int .i64 1541), .lit (.string [104, 116, 105, 109, 101, 100, 101, 108, 116, 97])], .agg [.lit (.int .i64 1542), .lit (.string [104, 99, 111, 117, 110, 116, 101, 114, 101, 110])], .agg [.lit (.int .i64 1543), .lit (.string [104, 103, 101, 105, 101])], .agg [.lit (.int .i64 1603), .lit (.string [104, 116, 118, 97, 108])], .agg [.lit (.int .i64 1604), .lit (.string [104, 105, 112])], .agg [.lit (.int .i64 1605), .lit (.string [104, 118, 105, 112])], .agg [.lit (.int .i64 1610), .lit (.string [104, 116, 105, 110, 115, 116])], .agg [.lit (.int .i64 1664), .lit (.string [104, 103, 97, 116, 112])], .agg [.lit (.int .i64 2816), .lit (.string [109, 99, 121, 99, 108, 101])], .agg [.lit (.int .i64 2818), .lit (.string [109, 105, 110, 115, 116, 114, 101, 116])], .agg [.lit (.int .i64 3072), .lit (.string [99, 121, 99, 108, 101])], .agg [.lit (.int .i64 3073), .lit (.string [116, 105, 109, 101])], .agg [.lit (.int .i64 3074), .lit (.string [105, 110, 115, 116, 114, 101, 116])], .agg [.lit (.int .i64 3602), .lit (.string [104, 103, 101, 105, 112])], .agg [.lit (.int .i64 3857), .lit (.string [109, 118, 101, 110, 100, 111, 114, 105, 100])], .agg [.lit (.int .i64 3858), .lit (.string [109, 97, 114, 99, 104, 105, 100])], .agg [.lit (.int .i64 3859), .lit (.string [109, 105, 109, 112, 105, 100])], .agg [.lit (.int .i64 3860), .lit (.string [109, 104, 97, 114, 116, 105, 100])], .agg [.lit (.int .i64 3861), .lit (.string [109, 99, 111, 110, 102, 105, 103, 112, 116, 114])]]

/-- 'mezzaninelaw11.CsrnoNames': WHATEVER THE INPUT: true; the input reads as it did. -/
def csrnoNamesSpec : ChangeSpec := { name := "csrnoNames", fn := fun _ => fun
  | [d1, d2] => { results := [.lit (.bool true)], args := [d1, d2] }
  | _ => none }
def csrnoNamesRow : OpenClaim := { program := "ytbmmafebekehdaadoor", sum := "b207ee66982873e880804e079bab49a07abe1bc7943e2d6fc382d55627381789", func := "mezzanine/mezzaninelaw11.CsrnoNames", spec := "csrnoNames", named := ["mezzanine/csrno.rows"], apart := false, laid := [("mezzanine/csrno.rows", laid_mezzanine_csrno_rows)] }
def CsrnoNamesSaid : Prop := csrnoNamesRow.holds Tryd.pinned (OpenSpec.ofChange csrnoNamesSpec)

/-- ITS FALSE NEIGHBOUR: 'it returns false'. Refute it at one input. -/
def csrnoNamesWrong : ChangeSpec := { name := "csrnoNames", fn := fun _ => fun
  | [d1, d2] => { results := [.lit (.bool false)], args := [d1, d2] }
  | _ => none }
def CsrnoNamesWrongFalsely : Prop := csrnoNamesRow.holds Tryd.pinned (OpenSpec.ofChange csrnoNamesWrong)

/-- 'mezzaninelaw11.CsrnoChecks': WHATEVER THE INPUT: true; the input reads as it did. -/
def csrnoChecksSpec : ChangeSpec := { name := "csrnoChecks", fn := fun _ => fun
  | [d1, d2, d3] => { results := [.lit (.bool true)], args := [d1, d2, d3] }
  | _ => none }
def csrnoChecksRow : OpenClaim := { program := "ytbmmafebekehdaadoor", sum := "b207ee66982873e880804e079bab49a07abe1bc7943e2d6fc382d55627381789", func := "mezzanine/mezzaninelaw11.CsrnoChecks", spec := "csrnoChecks", named := ["mezzanine/csrno.rows"], apart := false, laid := [("mezzanine/csrno.rows", laid_mezzanine_csrno_rows)] }
def CsrnoChecksSaid : Prop := csrnoChecksRow.holds Tryd.pinned (OpenSpec.ofChange csrnoChecksSpec)

/-- ITS FALSE NEIGHBOUR: 'it returns false'. Refute it at one input. -/
def csrnoChecksWrong : ChangeSpec := { name := "csrnoChecks", fn := fun _ => fun
  | [d1, d2, d3] => { results := [.lit (.bool false)], args := [d1, d2, d3] }
  | _ => none }
def CsrnoChecksWrongFalsely : Prop := csrnoChecksRow.holds Tryd.pinned (OpenSpec.ofChange csrnoChecksWrong)

/-- 'mezzaninelaw11.CsrnoRises': WHATEVER THE INPUT: true; the input reads as it did. -/
def csrnoRisesSpec : ChangeSpec := { name := "csrnoRises", fn := fun _ => fun
  | [d1, d2, d3] => { results := [.lit (.bool true)], args := [d1, d2, d3] }
  | _ => none }
def csrnoRisesRow : OpenClaim := { program := "ytbmmafebekehdaadoor", sum := "b207ee66982873e880804e079bab49a07abe1bc7943e2d6fc382d55627381789", func := "mezzanine/mezzaninelaw11.CsrnoRises", spec := "csrnoRises", named := ["mezzanine/csrno.rows"], apart := false, laid := [("mezzanine/csrno.rows", laid_mezzanine_csrno_rows)] }
def CsrnoRisesSaid : Prop := csrnoRisesRow.holds Tryd.pinned (OpenSpec.ofChange csrnoRisesSpec)

/-- ITS FALSE NEIGHBOUR: 'it returns false'. Refute it at one input. -/
def csrnoRisesWrong : ChangeSpec := { name := "csrnoRises", fn := fun _ => fun
  | [d1, d2, d3] => { results := [.lit (.bool false)], args := [d1, d2, d3] }
  | _ => none }
def CsrnoRisesWrongFalsely : Prop := csrnoRisesRow.holds Tryd.pinned (OpenSpec.ofChange csrnoRisesWrong)

/-- 'mezzaninelaw11.CsrnoGuest': WHATEVER THE INPUT: true; the input reads as it did. -/
def csrnoGuestSpec : ChangeSpec := { name := "csrnoGuest", fn := fun _ => fun
  | [d1, d2, d3] => { results := [.lit (.bool true)], args := [d1, d2, d3] }
  | _ => none }
def csrnoGuestRow : OpenClaim := { program := "ytbmmafebekehdaadoor", sum := "b207ee66982873e880804e079bab49a07abe1bc7943e2d6fc382d55627381789", func := "mezzanine/mezzaninelaw11.CsrnoGuest", spec := "csrnoGuest", named := ["mezzanine/csrno.rows"], apart := false, laid := [("mezzanine/csrno.rows", laid_mezzanine_csrno_rows)] }
def CsrnoGuestSaid : Prop := csrnoGuestRow.holds Tryd.pinned (OpenSpec.ofChange csrnoGuestSpec)

/-- ITS FALSE NEIGHBOUR: 'it returns false'. Refute it at one input. -/
def csrnoGuestWrong : ChangeSpec := { name := "csrnoGuest", fn := fun _ => fun
  | [d1, d2, d3] => { results := [.lit (.bool false)], args := [d1, d2, d3] }
  | _ => none }
def CsrnoGuestWrongFalsely : Prop := csrnoGuestRow.holds Tryd.pinned (OpenSpec.ofChange csrnoGuestWrong)

/-- 'mezzaninelaw11.CsrnoBack': WHATEVER THE INPUT: true; the input reads as it did. -/
def csrnoBackSpec : ChangeSpec := { name := "csrnoBack", fn := fun _ => fun
  | [d1, d2] => { results := [.lit (.bool true)], args := [d1, d2] }
  | _ => none }
def csrnoBackRow : OpenClaim := { program := "ytbmmafebekehdaadoor", sum := "b207ee66982873e880804e079bab49a07abe1bc7943e2d6fc382d55627381789", func := "mezzanine/mezzaninelaw11.CsrnoBack", spec := "csrnoBack", named := ["mezzanine/csrno.rows"], apart := false, laid := [("mezzanine/csrno.rows", laid_mezzanine_csrno_rows)] }
def CsrnoBackSaid : Prop := csrnoBackRow.holds Tryd.pinned (OpenSpec.ofChange csrnoBackSpec)

/-- ITS FALSE NEIGHBOUR: 'it returns false'. Refute it at one input. -/
def csrnoBackWrong : ChangeSpec := { name := "csrnoBack", fn := fun _ => fun
  | [d1, d2] => { results := [.lit (.bool false)], args := [d1, d2] }
  | _ => none }
def CsrnoBackWrongFalsely : Prop := csrnoBackRow.holds Tryd.pinned (OpenSpec.ofChange csrnoBackWrong)

/-- 'mezzaninelaw11.CsrnoAlls': WHATEVER THE INPUT: true; the input reads as it did. -/
def csrnoAllsSpec : ChangeSpec := { name := "csrnoAlls", fn := fun _ => fun
  | [] => { results := [.lit (.bool true)], args := [] }
  | _ => none }
def csrnoAllsRow : OpenClaim := { program := "ytbmmafebekehdaadoor", sum := "b207ee66982873e880804e079bab49a07abe1bc7943e2d6fc382d55627381789", func := "mezzanine/mezzaninelaw11.CsrnoAlls", spec := "csrnoAlls", named := ["mezzanine/csrno.rows"], apart := false, laid := [("mezzanine/csrno.rows", laid_mezzanine_csrno_rows)] }
def CsrnoAllsSaid : Prop := csrnoAllsRow.holds Tryd.pinned (OpenSpec.ofChange csrnoAllsSpec)

/-- ITS FALSE NEIGHBOUR: 'it returns false'. Refute it at one input. -/
def csrnoAllsWrong : ChangeSpec := { name := "csrnoAlls", fn := fun _ => fun
  | [] => { results := [.lit (.bool false)], args := [] }
  | _ => none }
def CsrnoAllsWrongFalsely : Prop := csrnoAllsRow.holds Tryd.pinned (OpenSpec.ofChange csrnoAllsWrong)

/- THE SECOND FORM. 'bulk': how many values and letters a reading holds, each counted each time it is reached (what is shared counts as often as it is met; a slice's spare places count too). A statement '..UptoSaid' is the law's where the arguments, and the package variables that the reading takes, are together of bulk at most 1048576: NARROWER than '..Said'. Prove '..Said' where nothing that the law and all that it calls make is longer than what came in: it says more and counts as full. Else prove '..UptoSaid'. A law counts once. -/
mutual
def uptoBulk {H : Type} : DataW H → Nat
  | .lit (.string bytes) => bytes.length + 1
  | .lit _ => 1
  | .nil => 1
  | .ptr d => uptoBulk d + 1
  | .slice elems spare => uptoBulkAll elems + uptoBulkAll spare + 1
  | .agg parts => uptoBulkAll parts + 1
  | .iface _ d => uptoBulk d + 1
  | .map entries => uptoBulkEntries entries + 1
  | .held _ => 1
def uptoBulkAll {H : Type} : List (DataW H) → Nat
  | [] => 0
  | d :: r => uptoBulk d + uptoBulkAll r
def uptoBulkEntries {H : Type} : List (Lit × DataW H) → Nat
  | [] => 0
  | x :: r => uptoBulkEntry x + uptoBulkEntries r
def uptoBulkEntry {H : Type} : Lit × DataW H → Nat
  | (.string bytes, d) => bytes.length + uptoBulk d + 1
  | (_, d) => uptoBulk d + 1
 end
def uptoSmall : (H : Type) → List (DataW H) → Bool := fun _ ds => decide (uptoBulkAll ds ≤ 1048576)
def OpenSpec.upto (s : _root_.Go.ChangeSpec) : _root_.Go.OpenSpec := { _root_.Go.OpenSpec.ofChange s with cond := some uptoSmall }

/-- 'mezzaninelaw11.CsrnoNames', WHERE WHAT IT READS IS OF BULK AT MOST 1048576: true; the input reads as it did. -/
def csrnoNamesUptoRow : OpenClaim := { program := "ytbmmafebekehdaadoor", sum := "b207ee66982873e880804e079bab49a07abe1bc7943e2d6fc382d55627381789", func := "mezzanine/mezzaninelaw11.CsrnoNames", spec := "csrnoNames", named := ["mezzanine/csrno.rows"], apart := false, laid := [("mezzanine/csrno.rows", laid_mezzanine_csrno_rows)], narrowed := true }
def CsrnoNamesUptoSaid : Prop := csrnoNamesUptoRow.holds Tryd.pinned (OpenSpec.upto csrnoNamesSpec)

/-- 'mezzaninelaw11.CsrnoChecks', WHERE WHAT IT READS IS OF BULK AT MOST 1048576: true; the input reads as it did. -/
def csrnoChecksUptoRow : OpenClaim := { program := "ytbmmafebekehdaadoor", sum := "b207ee66982873e880804e079bab49a07abe1bc7943e2d6fc382d55627381789", func := "mezzanine/mezzaninelaw11.CsrnoChecks", spec := "csrnoChecks", named := ["mezzanine/csrno.rows"], apart := false, laid := [("mezzanine/csrno.rows", laid_mezzanine_csrno_rows)], narrowed := true }
def CsrnoChecksUptoSaid : Prop := csrnoChecksUptoRow.holds Tryd.pinned (OpenSpec.upto csrnoChecksSpec)

/-- 'mezzaninelaw11.CsrnoRises', WHERE WHAT IT READS IS OF BULK AT MOST 1048576: true; the input reads as it did. -/
def csrnoRisesUptoRow : OpenClaim := { program := "ytbmmafebekehdaadoor", sum := "b207ee66982873e880804e079bab49a07abe1bc7943e2d6fc382d55627381789", func := "mezzanine/mezzaninelaw11.CsrnoRises", spec := "csrnoRises", named := ["mezzanine/csrno.rows"], apart := false, laid := [("mezzanine/csrno.rows", laid_mezzanine_csrno_rows)], narrowed := true }
def CsrnoRisesUptoSaid : Prop := csrnoRisesUptoRow.holds Tryd.pinned (OpenSpec.upto csrnoRisesSpec)

/-- 'mezzaninelaw11.CsrnoGuest', WHERE WHAT IT READS IS OF BULK AT MOST 1048576: true; the input reads as it did. -/
def csrnoGuestUptoRow : OpenClaim := { program := "ytbmmafebekehdaadoor", sum := "b207ee66982873e880804e079bab49a07abe1bc7943e2d6fc382d55627381789", func := "mezzanine/mezzaninelaw11.CsrnoGuest", spec := "csrnoGuest", named := ["mezzanine/csrno.rows"], apart := false, laid := [("mezzanine/csrno.rows", laid_mezzanine_csrno_rows)], narrowed := true }
def CsrnoGuestUptoSaid : Prop := csrnoGuestUptoRow.holds Tryd.pinned (OpenSpec.upto csrnoGuestSpec)

/-- 'mezzaninelaw11.CsrnoBack', WHERE WHAT IT READS IS OF BULK AT MOST 1048576: true; the input reads as it did. -/
def csrnoBackUptoRow : OpenClaim := { program := "ytbmmafebekehdaadoor", sum := "b207ee66982873e880804e079bab49a07abe1bc7943e2d6fc382d55627381789", func := "mezzanine/mezzaninelaw11.CsrnoBack", spec := "csrnoBack", named := ["mezzanine/csrno.rows"], apart := false, laid := [("mezzanine/csrno.rows", laid_mezzanine_csrno_rows)], narrowed := true }
def CsrnoBackUptoSaid : Prop := csrnoBackUptoRow.holds Tryd.pinned (OpenSpec.upto csrnoBackSpec)

/-- 'mezzaninelaw11.CsrnoAlls', WHERE WHAT IT READS IS OF BULK AT MOST 1048576: true; the input reads as it did. -/
def csrnoAllsUptoRow : OpenClaim := { program := "ytbmmafebekehdaadoor", sum := "b207ee66982873e880804e079bab49a07abe1bc7943e2d6fc382d55627381789", func := "mezzanine/mezzaninelaw11.CsrnoAlls", spec := "csrnoAlls", named := ["mezzanine/csrno.rows"], apart := false, laid := [("mezzanine/csrno.rows", laid_mezzanine_csrno_rows)], narrowed := true }
def CsrnoAllsUptoSaid : Prop := csrnoAllsUptoRow.holds Tryd.pinned (OpenSpec.upto csrnoAllsSpec)

end Rows
end Go.Proofs.YtbmmafebekehdaaDoor
