/- The number of any form in any word is the document's. -/
import Derived.Test.YtkolnfhaoklmaaaQx8
import Derived.Test.YtkolnfhaoklmaaaQForms
set_option linter.unusedSimpArgs false
set_option linter.unusedVariables false
namespace Go.Proofs.Ytkolnfhaoklmaaa.Pure
open Go.RowKit Go.Proofs.Ytkolnfhaoklmaaa.Q Go.Proofs.YtkolnfhaoklmaaaW.PrintWords Go.Proofs.YtkolnfhaoklmaaaW.PrintLast Go.Proofs.YtkolnfhaoklmaaaW.PrintMore Go.Proofs.Ytkolnfhaoklmaaa.Bv Go.Proofs.Ytkolnfhaoklmaaa.QF
theorem FieldsNumbers : mezzaninelaw08_FieldsNumbers.Pure := by
  intro f a hf ha
  obtain ⟨a0, a1⟩ := u32_in ha
  obtain ⟨w, rfl⟩ := Int.eq_ofNat_of_zero_le a0
  refine ⟨60, ?_⟩
  unfold mezzaninelaw08_FieldsNumbers.f
  rcases forms f with ⟨ps, s, b, W, g⟩ | g
  · rw [number_eq g 40 w (by omega), rnumber_eq g 10 w (by omega), wakes_eq 40]; simp
  · rw [g.number, g.rnumber 20, wakes_eq 40]; simp
end Go.Proofs.Ytkolnfhaoklmaaa.Pure
