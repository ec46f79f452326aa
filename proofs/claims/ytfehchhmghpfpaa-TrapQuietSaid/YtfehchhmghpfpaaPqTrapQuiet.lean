/- Behind a trap its mode takes no interrupts, till it opens them itself or returns: of any hart, any trap. -/
import Derived.Test.YtfehchhmghpfpaaHQuiet
import Derived.Test.YtfehchhmghpfpaaHrow
set_option linter.unusedVariables false
namespace Go.Proofs.Ytfehchhmghpfpaa.Pure
open Go.RowKit Go.Proofs.Ytfehchhmghpfpaa.Hx Go.Proofs.Ytfehchhmghpfpaa.Bv
theorem TrapQuiet (h : Ht) (ti : Bool) (tc tv tv2 tn : Int) (tg : Bool) (w : World) (hw : h.wf) (wc : (Lit.int .u64 tc).wf = true) (wv : (Lit.int .u64 tv).wf = true) (wv2 : (Lit.int .u64 tv2).wf = true) (wn : (Lit.int .u64 tn).wf = true) :
    Calls Try.prog 4 #[.agg h.cs, .agg #[.bool ti, .int .u64 tc, .int .u64 tv, .int .u64 tv2, .int .u64 tn, .bool tg]] w fun e w' => e = .returned (.bool true) ∧ Below w.heap.size w w' :=
  quiet_c h ti tc tv tv2 tn tg hw (u64_in wc).1 (u64_in wc).2 w
end Go.Proofs.Ytfehchhmghpfpaa.Pure
