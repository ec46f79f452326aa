/- What is written into a register that takes all is read again, and touches no other one. -/
import Derived.Test.YtlopmcakfalkpaaDoorLCsrAgain
import Derived.Test.YtlopmcakfalkpaaDoorHrow
set_option linter.unusedVariables false
namespace Go.Proofs.YtlopmcakfalkpaaDoor.Pure
open Go.RowKit Go.Proofs.YtlopmcakfalkpaaDoor.Hx Go.Proofs.YtlopmcakfalkpaaDoor.Bv Go.Proofs.YtlopmcakfalkpaaDoor.Q
theorem CsrAgain (h : Ht) (la lb lc ld : Bool) (lg lt : Int) (no : Int) (other : Int) (v : Int) (w : World) (hw : h.wf) (wg : (Lit.int .u64 lg).wf = true) (wt : (Lit.int .u64 lt).wf = true) (w_no : (Lit.int .i64 no).wf = true) (w_other : (Lit.int .i64 other).wf = true) (w_v : (Lit.int .u64 v).wf = true) (hT : Tab w) :
    Calls Tryd.prog 9 #[.agg h.cs, .agg #[.bool la, .bool lb, .bool lc, .bool ld, .int .u64 lg, .int .u64 lt], .int .i64 no, .int .i64 other, .int .u64 v] w fun e w' => e = .returned (.bool true) ∧ Below w.heap.size w w' :=
  again_c h hw la lb lc ld lg lt no other v (u64_in w_v) w hT
end Go.Proofs.YtlopmcakfalkpaaDoor.Pure
