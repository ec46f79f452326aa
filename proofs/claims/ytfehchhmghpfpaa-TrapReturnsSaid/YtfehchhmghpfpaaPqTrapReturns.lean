/- The hart that comes back is the document's: of any hart. -/
import Derived.Test.YtfehchhmghpfpaaHReturns
namespace Go.Proofs.Ytfehchhmghpfpaa.Pure
open Go.RowKit Go.Proofs.Ytfehchhmghpfpaa.Hx
theorem TrapReturns (h : Ht) (w : World) (hw : h.wf) : Calls Try.prog 5 #[.agg h.cs] w fun e w' => e = .returned (.bool true) ∧ Below w.heap.size w w' := returns_c h hw w
end Go.Proofs.Ytfehchhmghpfpaa.Pure
