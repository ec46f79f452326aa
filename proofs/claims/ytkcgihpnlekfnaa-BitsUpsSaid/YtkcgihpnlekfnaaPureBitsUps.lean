/- The next multiple (bits.Up) is the document's: of any two words. -/
import Derived.Test.YtkcgihpnlekfnaaPBitsUpsx1
set_option linter.unusedSimpArgs false
set_option linter.unusedVariables false
namespace Go.Proofs.Ytkcgihpnlekfnaa.Pure
open Go.RowKit Go.Proofs.Ytkcgihpnlekfnaa.PBitsUps Go.Proofs.YtkcgihpnlekfnaaW.PrintWords Go.Proofs.YtkcgihpnlekfnaaW.PrintLast

theorem ups_awake : mezzaninelaw01_awake.f 9 = some true := by kernel_rfl

theorem BitsUps : mezzaninelaw01_BitsUps.Pure := by
  intro a b ha hb
  simp only [Lit.wf, IntKind.min, IntKind.max, IntKind.signed, IntKind.bits, Bool.and_eq_true, decide_eq_true_eq] at ha hb
  simp at ha hb
  refine ⟨9, ?_⟩
  unfold mezzaninelaw01_BitsUps.f
  rw [ups_awake]
  unfold bits_Up.f mezzanineref01_Up.f
  simp only [IntKind.wrap_u64]
  by_cases hb0 : b = 0
  · simp [hb0]
  rw [Int.tmod_eq_emod_of_nonneg ha.1, Int.tdiv_eq_ediv_of_nonneg ha.1]
  have hq := Int.mul_ediv_add_emod a b
  have hr0 := Int.emod_nonneg a hb0
  have hr1 := Int.emod_lt_of_pos a (show 0 < b by omega)
  have hq0 : 0 ≤ a / b := Int.ediv_nonneg ha.1 hb.1
  have hqa : a / b ≤ a := Int.ediv_le_self b ha.1
  rw [Int.emod_eq_of_lt hq0 (show a / b < 18446744073709551616 by omega), Int.mul_comm (a / b) b]
  have hp0 : 0 ≤ b * (a / b) := Int.mul_nonneg hb.1 hq0
  generalize b * (a / b) = p at *
  generalize a % b = r at *
  have hp : p % 18446744073709551616 = p := by omega
  rw [hp]
  rw [if_neg hb0, if_neg hb0]
  by_cases h0 : r = 0
  · rw [if_pos h0, if_pos (by omega)]; simp
  · rw [if_neg h0, if_neg (show ¬ p = a by omega)]
    have e1 : (b - r) % 18446744073709551616 = b - r := by omega
    have e2 : (18446744073709551615 - a) % 18446744073709551616 = 18446744073709551615 - a := by omega
    rw [e1, e2]
    by_cases ho : b - r > 18446744073709551615 - a
    · rw [if_pos ho, if_pos (show (p + b) % 18446744073709551616 < b by omega)]; simp
    · rw [if_neg ho, if_neg (show ¬ (p + b) % 18446744073709551616 < b by omega), if_neg (show ¬ (p + b) % 18446744073709551616 < a by omega)]
      have e3 : (a + (b - r)) % 18446744073709551616 = (p + b) % 18446744073709551616 := by omega
      rw [e3]; simp

end Go.Proofs.Ytkcgihpnlekfnaa.Pure
