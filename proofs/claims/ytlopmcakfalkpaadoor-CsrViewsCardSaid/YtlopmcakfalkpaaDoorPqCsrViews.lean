/- What sstatus, sip, sie say are parts of what mstatus, mip, mie say; hip, hie, vsip, vsie too. -/
import Derived.Test.YtlopmcakfalkpaaDoorLCsrViews
import Derived.Test.YtlopmcakfalkpaaDoorHrow
set_option linter.unusedVariables false
namespace Go.Proofs.YtlopmcakfalkpaaDoor.Pure
open Go.RowKit Go.Proofs.YtlopmcakfalkpaaDoor.Hx Go.Proofs.YtlopmcakfalkpaaDoor.Bv Go.Proofs.YtlopmcakfalkpaaDoor.Q
theorem CsrViews (h : Ht) (la lb lc ld : Bool) (lg lt : Int) (w : World) (hw : h.wf) (wg : (Lit.int .u64 lg).wf = true) (wt : (Lit.int .u64 lt).wf = true) (hT : Tab w) :
    Calls Tryd.prog 8 #[.agg h.cs, .agg #[.bool la, .bool lb, .bool lc, .bool ld, .int .u64 lg, .int .u64 lt]] w fun e w' => e = .returned (.bool true) ∧ Below w.heap.size w w' :=
  views_c h hw la lb lc ld lg lt  w hT
end Go.Proofs.YtlopmcakfalkpaaDoor.Pure
