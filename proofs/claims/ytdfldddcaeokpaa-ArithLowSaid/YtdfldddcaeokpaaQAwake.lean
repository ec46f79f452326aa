/- The first statement of every law of package arith. -/
import Derived.Test.YtdfldddcaeokpaaQx1
import Derived.Test.YtdfldddcaeokpaaQArith
namespace Go.Proofs.Ytdfldddcaeokpaa.QF
open Go.RowKit Go.Proofs.Ytdfldddcaeokpaa.Q Go.Proofs.YtdfldddcaeokpaaW.PrintWords Go.Proofs.YtdfldddcaeokpaaW.PrintLast Go.Proofs.YtdfldddcaeokpaaW.PrintMore Go.Proofs.Ytdfldddcaeokpaa.Bv
theorem arith_awake : mezzaninelaw02_awake.f = some true := by kernel_rfl
end Go.Proofs.Ytdfldddcaeokpaa.QF
