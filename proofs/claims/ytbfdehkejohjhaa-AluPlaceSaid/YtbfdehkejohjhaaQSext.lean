/- What bits.Sext and the document's Sext tell, as bit vectors. -/
import Derived.Test.YtbfdehkejohjhaaQx1
import Derived.Test.YtbfdehkejohjhaaQx8
import Derived.Test.YtbfdehkejohjhaaArr
set_option linter.unusedSimpArgs false
set_option linter.unusedVariables false
namespace Go.Proofs.Ytbfdehkejohjhaa.QF
open Go.RowKit Go.Proofs.Ytbfdehkejohjhaa.Q Go.Proofs.YtbfdehkejohjhaaW.PrintWords Go.Proofs.YtbfdehkejohjhaaW.PrintLast Go.Proofs.YtbfdehkejohjhaaW.PrintMore Go.Proofs.Ytbfdehkejohjhaa.Bv

def sextB (w : BitVec 64) (n : Int) : BitVec 64 := if n < 1 then 0#64 else (w <<< (64 - n).toNat).sshiftRight (64 - n).toNat
theorem sext_eq (w : BitVec 64) (n : Int) (hn : n < 9223372036854775808) : bits_Sext.f (U w) n = some (U (sextB w n)) := by
  unfold bits_Sext.f sextB
  by_cases h0 : n < 1
  · rw [if_pos h0, if_pos h0]; rfl
  rw [if_neg h0, if_neg h0]
  by_cases h1 : n > 63
  · rw [if_pos h1, show (64 - n).toNat = 0 by omega]; congr 2
    apply BitVec.eq_of_getLsbD_eq; intro i hi
    simp [BitVec.getLsbD_sshiftRight, hi]
  have e : wrap64 (64 - n) = 64 - n := by unfold wrap64; omega
  rw [if_neg h1, e, if_pos (by omega), shl_u64, wrap64_S, ofInt_U, shr_i64, wrap_u64, ofInt_S]
theorem sext_bit (w : BitVec 64) (n : Int) (h : 1 ≤ n) (h' : n ≤ 64) (i : Nat) : (sextB w n).getLsbD i = (decide (i < 64) && (if (i : Int) < n then w.getLsbD i else w.getLsbD (n - 1).toNat)) := by
  unfold sextB
  rw [if_neg (by omega), BitVec.getLsbD_sshiftRight]
  obtain ⟨s, hs⟩ : ∃ s : Nat, s = (64 - n).toNat := ⟨_, rfl⟩
  rw [← hs]
  by_cases hi : i < 64
  · rw [show (decide (64 ≤ i)) = false by simp; omega, show (decide (i < 64)) = true by simpa using hi]
    by_cases h2 : (i : Int) < n
    · rw [if_pos (by omega), if_pos h2, BitVec.getLsbD_shiftLeft, show decide (s + i < 64) = true by simp; omega, show decide (s + i < s) = false by simp,
        show s + i - s = i by omega]; simp
    · rw [if_neg (by omega), if_neg h2, BitVec.msb_eq_getLsbD_last, BitVec.getLsbD_shiftLeft, show decide (64 - 1 < 64) = true from rfl, show decide (64 - 1 < s) = false by simp; omega,
        show 64 - 1 - s = (n - 1).toNat by omega]; simp
  · simp [hi, show 64 ≤ i by omega]
theorem signs_one (x : BitVec 64) (n : Int) (hn : n < 9223372036854775808) : sextB x n = mezzanineref01_Sext.B x n := by
  unfold mezzanineref01_Sext.B
  by_cases h : n < 1
  · rw [if_pos h]; unfold sextB; rw [if_pos h]
  rw [if_neg h]
  refine (ofB_eq fun i hi => ?_).symm
  by_cases h64 : n ≤ 64
  · rw [sext_bit x n (by omega) h64]; unfold bitOf
    by_cases h2 : n ≤ (i : Int)
    · rw [if_pos h2, if_neg (by omega)]; simp [hi]
    · rw [if_neg h2, if_pos (by omega)]; simp [hi]
  · unfold sextB; rw [if_neg h, show (64 - n).toNat = 0 by omega, if_neg (by omega)]; unfold bitOf
    simp [BitVec.getLsbD_sshiftRight, hi]
theorem ref_sext (x : BitVec 64) (n : Int) (h0 : -9223372036854775808 ≤ n) (h1 : n < 9223372036854775808) : mezzanineref01_Sext.f (U x) n = some (U (sextB x n)) := by
  unfold mezzanineref01_Sext.f
  have hx := U_range x
  rw [if_pos (And.intro hx.1 (And.intro hx.2 (And.intro h0 h1))), ofInt_U, signs_one x n h1]
end Go.Proofs.Ytbfdehkejohjhaa.QF
