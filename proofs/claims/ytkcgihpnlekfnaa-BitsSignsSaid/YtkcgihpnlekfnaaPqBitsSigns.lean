/- Signs that are drawn out (bits.Sext), and whether they are (bits.Canon), are the document's: of any word, any number. -/
import Derived.Test.YtkcgihpnlekfnaaQx2
import Derived.Test.YtkcgihpnlekfnaaQBits
set_option linter.unusedSimpArgs false
set_option linter.unusedVariables false
namespace Go.Proofs.Ytkcgihpnlekfnaa.Pure
open Go.RowKit Go.Proofs.Ytkcgihpnlekfnaa.Q Go.Proofs.YtkcgihpnlekfnaaW.PrintWords Go.Proofs.YtkcgihpnlekfnaaW.PrintLast Go.Proofs.Ytkcgihpnlekfnaa.Bv Go.Proofs.Ytkcgihpnlekfnaa.QF

theorem signs_one (x : BitVec 64) (n : Int) (hn : n < 9223372036854775808) : sextB x n = mezzanineref01_Sext.B x n := by
  unfold mezzanineref01_Sext.B
  by_cases h : n < 1
  · rw [if_pos h]; unfold sextB; rw [if_pos h]
  rw [if_neg h]
  refine (ofB_eq fun i hi => ?_).symm
  by_cases h64 : n ≤ 64
  · rw [sext_bit x n (by omega) h64]; unfold bitOf
    by_cases h2 : n ≤ (i : Int)
    · rw [if_pos h2, if_neg (by omega)]; simp [hi]
    · rw [if_neg h2, if_pos (by omega)]; simp [hi]
  · unfold sextB; rw [if_neg h, show (64 - n).toNat = 0 by omega, if_neg (by omega)]; unfold bitOf
    simp [BitVec.getLsbD_sshiftRight, hi]
theorem signs_two (x : BitVec 64) (n : Int) (hn : n < 9223372036854775808) : (decide (n > 0) && decide (sextB x n = x)) = mezzanineref01_Canon.B x n := by
  unfold mezzanineref01_Canon.B
  by_cases h : n < 1
  · rw [show decide (n > 0) = false by simp; omega, show decide (1 ≤ n) = false by simp; omega]; rfl
  rw [show decide (n > 0) = true by simp; omega, show decide (1 ≤ n) = true by simp; omega, Bool.true_and, Bool.true_and, Bool.eq_iff_iff, decide_eq_true_eq, List.all_eq_true]
  rw [signs_one x n hn]
  unfold mezzanineref01_Sext.B; rw [if_neg h]
  constructor
  · intro he i hi
    rw [List.mem_range] at hi
    by_cases h2 : n ≤ (i : Int)
    · have h3 : bitOf x i = bitOf x (n - 1).toNat := by
        have h4 : (ofB fun i => if n ≤ (i : Int) then bitOf x (n - 1).toNat else bitOf x i).getLsbD i = x.getLsbD i := by rw [he]
        rw [ofB_bit _ i hi, if_pos h2] at h4
        exact h4.symm
      rw [h3]; simp
    · rw [show decide (n ≤ (i : Int)) = false by simp; omega]; rfl
  · intro he
    refine ofB_eq fun i hi => ?_
    have h3 := he i (List.mem_range.2 hi)
    by_cases h2 : n ≤ (i : Int)
    · rw [if_pos h2]; rw [decide_eq_true h2, Bool.not_true, Bool.false_or, beq_iff_eq] at h3
      rw [← h3]; rfl
    · rw [if_neg h2]; rfl

theorem ref_sext (x : BitVec 64) (n : Int) (h0 : -9223372036854775808 ≤ n) (h1 : n < 9223372036854775808) : mezzanineref01_Sext.f (U x) n = some (U (sextB x n)) := by
  unfold mezzanineref01_Sext.f
  have hx := U_range x
  rw [if_pos (And.intro hx.1 (And.intro hx.2 (And.intro h0 h1))), ofInt_U, signs_one x n h1]
theorem ref_canon (x : BitVec 64) (n : Int) (h0 : -9223372036854775808 ≤ n) (h1 : n < 9223372036854775808) : mezzanineref01_Canon.f (U x) n = some (decide (n > 0) && decide (sextB x n = x)) := by
  unfold mezzanineref01_Canon.f
  have hx := U_range x
  rw [if_pos (And.intro hx.1 (And.intro hx.2 (And.intro h0 h1))), ofInt_U, signs_two x n h1]
theorem BitsSigns : mezzaninelaw01_BitsSigns.Pure := by
  intro a n ha hn
  obtain ⟨x, rfl⟩ := U_wf ha
  have hn := i64_in hn
  refine ⟨9, ?_⟩
  unfold mezzaninelaw01_BitsSigns.f
  rw [bits_awake, sext_eq x n hn.2, ref_sext x n hn.1 hn.2, canon_eq x n hn.2, ref_canon x n hn.1 hn.2]
  simp only [Option.bind_some, if_true, beq_self_eq_true]
end Go.Proofs.Ytkcgihpnlekfnaa.Pure
