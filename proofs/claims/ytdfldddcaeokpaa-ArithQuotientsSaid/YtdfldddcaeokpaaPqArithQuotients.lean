/- The quotients and the rests are the document's. -/
import Derived.Test.YtdfldddcaeokpaaQx6
import Derived.Test.YtdfldddcaeokpaaQRef
set_option linter.unusedSimpArgs false
set_option linter.unusedVariables false
namespace Go.Proofs.Ytdfldddcaeokpaa.Pure
open Go.RowKit Go.Proofs.Ytdfldddcaeokpaa.Q Go.Proofs.YtdfldddcaeokpaaW.PrintWords Go.Proofs.YtdfldddcaeokpaaW.PrintLast Go.Proofs.Ytdfldddcaeokpaa.Bv Go.Proofs.Ytdfldddcaeokpaa.QF
theorem ArithQuotients : mezzaninelaw02_ArithQuotients.Pure := by
  intro a b ha hb
  obtain ⟨a0, a1⟩ := u64_in ha; obtain ⟨b0, b1⟩ := u64_in hb
  unfold mezzaninelaw02_ArithQuotients.f
  rw [arith_awake, div_eq a0 a1 b0 b1, rdiv_eq a0 a1 b0 b1, rem_eq a0 a1 b0 b1, rrem_eq a0 a1 b0 b1, divu_eq a0 a1 b0, rdivu_eq a0 a1 b0, remu_eq a0, rremu_eq a0]
  simp
end Go.Proofs.Ytdfldddcaeokpaa.Pure
