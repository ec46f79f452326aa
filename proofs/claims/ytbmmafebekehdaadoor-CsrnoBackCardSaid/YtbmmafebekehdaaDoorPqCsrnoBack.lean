/- Each register has one name, each name one register: of any number, any text. -/
import Derived.Test.YtbmmafebekehdaaDoorQx9
import Derived.Test.YtbmmafebekehdaaDoorQWakes11
set_option linter.unusedSimpArgs false
set_option linter.unusedVariables false
namespace Go.Proofs.YtbmmafebekehdaaDoor.Pure
open Go.RowKit Go.Proofs.YtbmmafebekehdaaDoor.Q Go.Proofs.YtbmmafebekehdaaDoorW.PrintWords Go.Proofs.YtbmmafebekehdaaDoorW.PrintLast Go.Proofs.YtbmmafebekehdaaDoorW.PrintMore Go.Proofs.YtbmmafebekehdaaDoor.Bv Go.Proofs.YtbmmafebekehdaaDoor.QN
theorem back_j0 (k : Nat) (s : ByteArray) : mezzaninelaw11_CsrnoBack.j0 (k + 13) s false = some true := by
  rw [show k + 13 = k + 12 + 1 from rfl, mezzaninelaw11_CsrnoBack.j0, if_neg (by decide), show csrno_Number.f s = some (numFrom s 56 0) from rfl, bsm, csrno_wakes, bsm]
  rcases numFrom_cases s 56 0 rfl with ⟨e, _⟩ | ⟨j, h1, h2, h3, h4, h5⟩
  · rw [if_pos e]
  · have hr := rowNo_range j h2
    rw [h3, if_neg (by omega), name_eq, bsm, nameOf_no h2, if_pos h4, if_pos hr.1, if_pos hr.2]
theorem CsrnoBack : mezzaninelaw11_CsrnoBack.Pure := by
  intro n s hn hs
  refine ⟨4200, ?_⟩
  unfold mezzaninelaw11_CsrnoBack.f
  rw [csrno_wakes, bsm]
  by_cases h : (s.size : Int) > 1000
  · rw [if_pos h]
  · rw [if_neg h, name_eq, bsm, known_eq, bsm, known_name, if_neg (by simp)]
    by_cases he : (nameOf n).toList = ([] : List UInt8)
    · rw [if_pos he]; exact back_j0 4187 s
    · obtain ⟨j, hj, e, h6⟩ := nameOf_row he rfl
      have e2 : csrno_Number.f (nameOf n) = some n := by
        rw [← e, nameOf_no hj]; exact congrArg some (number_name hj)
      rw [if_neg he, e2, bsm, bne_self_eq_false]; exact back_j0 4187 s
end Go.Proofs.YtbmmafebekehdaaDoor.Pure
