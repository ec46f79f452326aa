/- The quotients and the rests of halves are the document's. -/
import Derived.Test.YtdfldddcaeokpaaQx7
import Derived.Test.YtdfldddcaeokpaaQRef
set_option linter.unusedSimpArgs false
set_option linter.unusedVariables false
namespace Go.Proofs.Ytdfldddcaeokpaa.Pure
open Go.RowKit Go.Proofs.Ytdfldddcaeokpaa.Q Go.Proofs.YtdfldddcaeokpaaW.PrintWords Go.Proofs.YtdfldddcaeokpaaW.PrintLast Go.Proofs.Ytdfldddcaeokpaa.Bv Go.Proofs.Ytdfldddcaeokpaa.QF
theorem ArithHalves : mezzaninelaw02_ArithHalves.Pure := by
  intro a b ha hb
  obtain ⟨a0, a1⟩ := u64_in ha; obtain ⟨b0, b1⟩ := u64_in hb
  unfold mezzaninelaw02_ArithHalves.f
  rw [arith_awake, divw_eq, rdivw_eq a0 a1 b0 b1, remw_eq, rremw_eq a0 a1 b0 b1, divuw_eq, rdivuw_eq a0 a1 b0 b1, remuw_eq, rremuw_eq a0 a1 b0 b1]
  simp
end Go.Proofs.Ytdfldddcaeokpaa.Pure
