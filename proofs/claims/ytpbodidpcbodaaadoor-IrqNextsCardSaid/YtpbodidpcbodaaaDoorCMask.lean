/- Which bits of a register may be written. (By a program of this session.) -/
import Derived.Test.YtpbodidpcbodaaaDoorCMaska
import Derived.Test.YtpbodidpcbodaaaDoorCMaskb
import Derived.Test.YtpbodidpcbodaaaDoorCMaskc
set_option linter.unusedSimpArgs false
set_option linter.unusedVariables false
namespace Go.Proofs.YtpbodidpcbodaaaDoor.Hx
open Go.RowKit Go.Proofs.YtpbodidpcbodaaaDoor.Q Go.Proofs.YtpbodidpcbodaaaDoorW.PrintWords Go.Proofs.YtpbodidpcbodaaaDoorW.PrintLast Go.Proofs.YtpbodidpcbodaaaDoorW.PrintMore Go.Proofs.YtpbodidpcbodaaaDoor.Rg

/-- Which bits of a register may be written, and which are always 1. -/
def maskV (no : Int) : Int × Int := if no = 768 then (824641984938, 42949672960) else if no = 770 then (15775743, 0) else if no = 1538 then (45567, 0) else if no = 771 then (546, 5188) else if no = 1539 then (1092, 0) else if no = 1605 then (1092, 0) else if no = 772 then (7918, 0) else if no = 1543 then (2, 0) else if no = 833 then (18446744073709551612, 0) else if no = 321 then (18446744073709551612, 0) else if no = 577 then (18446744073709551612, 0) else if no = 773 then (18446744073709551613, 0) else if no = 261 then (18446744073709551613, 0) else if no = 517 then (18446744073709551613, 0) else if no = 774 then (7, 0) else if no = 262 then (7, 0) else if no = 1542 then (7, 0) else if no = 1536 then (7345088, 8589934592) else if no = 512 then (786722, 8589934592) else if no = 1664 then (17582052945254416380, 0) else (18446744073709551615, 0)
set_option maxHeartbeats 16000000 in
set_option maxRecDepth 100000 in
theorem mask_c (no : Int) (w : World) : Calls Tryd.prog 28 #[.int .i64 no] w fun e w' => e = .returned (.tuple #[.int .u64 (maskV no).1, .int .u64 (maskV no).2]) ∧ w' = w := by
  by_cases h_768 : no = 768
  · subst h_768
    exact mask_mstatus w
  by_cases h_770 : no = 770
  · subst h_770
    exact mask_medeleg w
  by_cases h_1538 : no = 1538
  · subst h_1538
    exact mask_hedeleg w
  by_cases h_771 : no = 771
  · subst h_771
    exact mask_mideleg w
  by_cases h_1539 : no = 1539
  · subst h_1539
    exact mask_hideleg w
  by_cases h_1605 : no = 1605
  · subst h_1605
    exact mask_hvip w
  by_cases h_772 : no = 772
  · subst h_772
    exact mask_mie w
  by_cases h_1543 : no = 1543
  · subst h_1543
    exact mask_hgeie w
  by_cases h_833 : no = 833
  · subst h_833
    exact mask_mepc w
  by_cases h_321 : no = 321
  · subst h_321
    exact mask_sepc w
  by_cases h_577 : no = 577
  · subst h_577
    exact mask_vsepc w
  by_cases h_773 : no = 773
  · subst h_773
    exact mask_mtvec w
  by_cases h_261 : no = 261
  · subst h_261
    exact mask_stvec w
  by_cases h_517 : no = 517
  · subst h_517
    exact mask_vstvec w
  by_cases h_774 : no = 774
  · subst h_774
    exact mask_mcounteren w
  by_cases h_262 : no = 262
  · subst h_262
    exact mask_scounteren w
  by_cases h_1542 : no = 1542
  · subst h_1542
    exact mask_hcounteren w
  by_cases h_1536 : no = 1536
  · subst h_1536
    exact mask_hstatus w
  by_cases h_512 : no = 512
  · subst h_512
    exact mask_vsstatus w
  by_cases h_1664 : no = 1664
  · subst h_1664
    exact mask_hgatp w
  have e_768 : (no == 768) = false := beq_eq_false_iff_ne.2 h_768
  have e_770 : (no == 770) = false := beq_eq_false_iff_ne.2 h_770
  have e_1538 : (no == 1538) = false := beq_eq_false_iff_ne.2 h_1538
  have e_771 : (no == 771) = false := beq_eq_false_iff_ne.2 h_771
  have e_1539 : (no == 1539) = false := beq_eq_false_iff_ne.2 h_1539
  have e_1605 : (no == 1605) = false := beq_eq_false_iff_ne.2 h_1605
  have e_772 : (no == 772) = false := beq_eq_false_iff_ne.2 h_772
  have e_1543 : (no == 1543) = false := beq_eq_false_iff_ne.2 h_1543
  have e_833 : (no == 833) = false := beq_eq_false_iff_ne.2 h_833
  have e_321 : (no == 321) = false := beq_eq_false_iff_ne.2 h_321
  have e_577 : (no == 577) = false := beq_eq_false_iff_ne.2 h_577
  have e_773 : (no == 773) = false := beq_eq_false_iff_ne.2 h_773
  have e_261 : (no == 261) = false := beq_eq_false_iff_ne.2 h_261
  have e_517 : (no == 517) = false := beq_eq_false_iff_ne.2 h_517
  have e_774 : (no == 774) = false := beq_eq_false_iff_ne.2 h_774
  have e_262 : (no == 262) = false := beq_eq_false_iff_ne.2 h_262
  have e_1542 : (no == 1542) = false := beq_eq_false_iff_ne.2 h_1542
  have e_1536 : (no == 1536) = false := beq_eq_false_iff_ne.2 h_1536
  have e_512 : (no == 512) = false := beq_eq_false_iff_ne.2 h_512
  have e_1664 : (no == 1664) = false := beq_eq_false_iff_ne.2 h_1664
  have hm : maskV no = (18446744073709551615, 0) := by unfold maskV; rw [if_neg h_768, if_neg h_770, if_neg h_1538, if_neg h_771, if_neg h_1539, if_neg h_1605, if_neg h_772, if_neg h_1543, if_neg h_833, if_neg h_321, if_neg h_577, if_neg h_773, if_neg h_261, if_neg h_517, if_neg h_774, if_neg h_262, if_neg h_1542, if_neg h_1536, if_neg h_512, if_neg h_1664]
  rw [hm]
  clear hm h_768 h_770 h_1538 h_771 h_1539 h_1605 h_772 h_1543 h_833 h_321 h_577 h_773 h_261 h_517 h_774 h_262 h_1542 h_1536 h_512 h_1664
  go_enter Tryd.func28, Tryd.ntmps28
  go_wp2
  go_ret2
  exact ⟨by first | rfl | decide +kernel, rfl⟩
end Go.Proofs.YtpbodidpcbodaaaDoor.Hx
