/- What fits, the word that says it, and the bits that it takes are the document's. -/
import Derived.Test.YtkolnfhaoklmaaaQx11
import Derived.Test.YtkolnfhaoklmaaaQForms
set_option linter.unusedSimpArgs false
set_option linter.unusedVariables false
namespace Go.Proofs.Ytkolnfhaoklmaaa.Pure
open Go.RowKit Go.Proofs.Ytkolnfhaoklmaaa.Q Go.Proofs.YtkolnfhaoklmaaaW.PrintWords Go.Proofs.YtkolnfhaoklmaaaW.PrintLast Go.Proofs.YtkolnfhaoklmaaaW.PrintMore Go.Proofs.Ytkolnfhaoklmaaa.Bv Go.Proofs.Ytkolnfhaoklmaaa.QF
theorem FieldsPuts : mezzaninelaw08_FieldsPuts.Pure := by
  intro f n hf hn
  obtain ⟨n0, n1⟩ := i64_in hn
  refine ⟨60, ?_⟩
  unfold mezzaninelaw08_FieldsPuts.f
  rcases forms f with ⟨ps, s, b, W, g⟩ | g
  · rw [put_eq g 40 n n0 n1, rput_eq g 10 n n0 n1, fits_eq g 40 n n0 n1, g.bts 54, g.rbt 20, wakes_eq 40]; simp
  · rw [g.put 59, g.rput 20, g.fits 59, g.bts 59, g.rbt 20, wakes_eq 40]; simp
end Go.Proofs.Ytkolnfhaoklmaaa.Pure
