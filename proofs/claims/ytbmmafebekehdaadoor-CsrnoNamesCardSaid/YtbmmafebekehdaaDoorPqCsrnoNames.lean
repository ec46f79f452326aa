/- Names and numbers are the document's: of any number, any text. -/
import Derived.Test.YtbmmafebekehdaaDoorQx6
import Derived.Test.YtbmmafebekehdaaDoorQWakes11
set_option linter.unusedSimpArgs false
set_option linter.unusedVariables false
namespace Go.Proofs.YtbmmafebekehdaaDoor.Pure
open Go.RowKit Go.Proofs.YtbmmafebekehdaaDoor.Q Go.Proofs.YtbmmafebekehdaaDoorW.PrintWords Go.Proofs.YtbmmafebekehdaaDoorW.PrintLast Go.Proofs.YtbmmafebekehdaaDoorW.PrintMore Go.Proofs.YtbmmafebekehdaaDoor.Bv Go.Proofs.YtbmmafebekehdaaDoor.QN
theorem CsrnoNames : mezzaninelaw11_CsrnoNames.Pure := by
  intro n s hn hs
  refine ⟨4200, ?_⟩
  unfold mezzaninelaw11_CsrnoNames.f
  rw [csrno_wakes, bsm]
  by_cases h : (s.size : Int) > 1000
  · rw [if_pos h]
  · rw [if_neg h, name_eq, bsm, rname_eq, bsm, if_pos rfl, known_eq, bsm, bsm, known_name, if_pos (by simp), show csrno_Number.f s = some (numFrom s 56 0) from rfl, bsm, rnumber_eq 103 s, bsm, if_pos rfl]
end Go.Proofs.YtbmmafebekehdaaDoor.Pure
