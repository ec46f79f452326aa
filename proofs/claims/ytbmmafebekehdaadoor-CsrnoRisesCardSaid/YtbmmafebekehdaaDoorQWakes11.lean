/- What every statement of package csrno asks of itself. -/
import Derived.Test.YtbmmafebekehdaaDoorQx4
import Derived.Test.YtbmmafebekehdaaDoorQCheck
set_option linter.unusedSimpArgs false
set_option linter.unusedVariables false
namespace Go.Proofs.YtbmmafebekehdaaDoor.QN
open Go.RowKit Go.Proofs.YtbmmafebekehdaaDoor.Q Go.Proofs.YtbmmafebekehdaaDoorW.PrintWords Go.Proofs.YtbmmafebekehdaaDoorW.PrintLast Go.Proofs.YtbmmafebekehdaaDoorW.PrintMore Go.Proofs.YtbmmafebekehdaaDoor.Bv
theorem csrno_wakes : mezzaninelaw11_wakes.f = some true := by
  unfold mezzaninelaw11_wakes.f mezzaninelaw11_wakes.g
  rw [check_eq 15, bsm, check_eq 15, bsm]
  kernel_rfl
end Go.Proofs.YtbmmafebekehdaaDoor.QN
