/- The products are the document's. -/
import Derived.Test.YtdfldddcaeokpaaQx5
import Derived.Test.YtdfldddcaeokpaaQRef
set_option linter.unusedSimpArgs false
set_option linter.unusedVariables false
namespace Go.Proofs.Ytdfldddcaeokpaa.Pure
open Go.RowKit Go.Proofs.Ytdfldddcaeokpaa.Q Go.Proofs.YtdfldddcaeokpaaW.PrintWords Go.Proofs.YtdfldddcaeokpaaW.PrintLast Go.Proofs.Ytdfldddcaeokpaa.Bv Go.Proofs.Ytdfldddcaeokpaa.QF
theorem ArithProducts : mezzaninelaw02_ArithProducts.Pure := by
  intro a b ha hb
  obtain ⟨a0, a1⟩ := u64_in ha; obtain ⟨b0, b1⟩ := u64_in hb
  refine ⟨2, ?_⟩
  unfold mezzaninelaw02_ArithProducts.f
  rw [arith_awake, mulh_eq a0 a1 b0 b1, rmulh_eq 0 a0 a1 b0 b1, mulhsu_eq a0 a1 b0 b1, rmulhsu_eq 0 a0 a1 b0 b1, mulhu_eq a0 a1 b0 b1, rmulhu_eq 0 a0 a1 b0 b1, mulw_eq, rmulw_eq a0 a1 b0 b1]
  simp
end Go.Proofs.Ytdfldddcaeokpaa.Pure
