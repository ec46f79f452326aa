/- Writing what set and clear begin with changes nothing of a legal hart. -/
import Derived.Test.YtlopmcakfalkpaaDoorLCsrSame
import Derived.Test.YtlopmcakfalkpaaDoorHrow
set_option linter.unusedVariables false
namespace Go.Proofs.YtlopmcakfalkpaaDoor.Pure
open Go.RowKit Go.Proofs.YtlopmcakfalkpaaDoor.Hx Go.Proofs.YtlopmcakfalkpaaDoor.Bv Go.Proofs.YtlopmcakfalkpaaDoor.Q
theorem CsrSame (h : Ht) (la lb lc ld : Bool) (lg lt : Int) (no : Int) (w : World) (hw : h.wf) (wg : (Lit.int .u64 lg).wf = true) (wt : (Lit.int .u64 lt).wf = true) (w_no : (Lit.int .i64 no).wf = true) (hT : Tab w) :
    Calls Tryd.prog 4 #[.agg h.cs, .agg #[.bool la, .bool lb, .bool lc, .bool ld, .int .u64 lg, .int .u64 lt], .int .i64 no] w fun e w' => e = .returned (.bool true) ∧ Below w.heap.size w w' :=
  same_c h hw la lb lc ld lg lt no  w hT
end Go.Proofs.YtlopmcakfalkpaaDoor.Pure
