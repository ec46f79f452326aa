/- What is known of the multiplications and divisions. -/
import Derived.Test.YtdfldddcaeokpaaQx10
set_option linter.unusedSimpArgs false
set_option linter.unusedVariables false
namespace Go.Proofs.Ytdfldddcaeokpaa.Pure
open Go.RowKit Go.Proofs.Ytdfldddcaeokpaa.Q
theorem ArithKnown : mezzaninelaw02_ArithKnown.Pure := ⟨3, by kernel_rfl⟩
end Go.Proofs.Ytdfldddcaeokpaa.Pure
