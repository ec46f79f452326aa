/- The laws' own two functions. -/
import Derived.Test.YtbfdehkejohjhaaQx13
import Derived.Test.YtbfdehkejohjhaaQAluJump
set_option linter.unusedSimpArgs false
set_option linter.unusedVariables false
namespace Go.Proofs.Ytbfdehkejohjhaa.QA
open Go.RowKit Go.Proofs.Ytbfdehkejohjhaa.Q Go.Proofs.YtbfdehkejohjhaaW.PrintWords Go.Proofs.YtbfdehkejohjhaaW.PrintLast Go.Proofs.YtbfdehkejohjhaaW.PrintMore Go.Proofs.Ytbfdehkejohjhaa.Bv Go.Proofs.Ytbfdehkejohjhaa.QF
theorem value_eq (k : Nat) (op : Int) {a b : Int} (a0 : 0 ≤ a) (a1 : a < 18446744073709551616) (b0 : 0 ≤ b) (b1 : b < 18446744073709551616) : mezzaninelaw21_value.f (k + 6) op a b = some (V op 0 a b 0).1 := by
  unfold mezzaninelaw21_value.f; rw [alu_eq k op 1 2 3 0 0 false false a0 a1 b0 b1, bsm]
theorem take_eq (op : Int) {a b : Int} (a0 : 0 ≤ a) (a1 : a < 18446744073709551616) (b0 : 0 ≤ b) (b1 : b < 18446744073709551616) : mezzaninelaw21_taken.f op a b = some (Tk op a b) := by
  unfold mezzaninelaw21_taken.f; rw [taken_eq op 0 0 0 0 0 false false a0 a1 b0 b1, bsm]
end Go.Proofs.Ytbfdehkejohjhaa.QA
