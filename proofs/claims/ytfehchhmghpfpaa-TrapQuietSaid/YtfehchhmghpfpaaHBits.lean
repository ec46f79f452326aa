/- Bits of words that are made so, one by one: what the program's and the document's helpers of chapter 14 tell is the same. -/
import Derived.Test.YtfehchhmghpfpaaHTo
set_option linter.unusedSimpArgs false
set_option linter.unusedVariables false
namespace Go.Proofs.Ytfehchhmghpfpaa.Hx
open Go.RowKit Go.Proofs.Ytfehchhmghpfpaa.Q Go.Proofs.YtfehchhmghpfpaaW.PrintWords Go.Proofs.YtfehchhmghpfpaaW.PrintLast Go.Proofs.YtfehchhmghpfpaaW.PrintMore Go.Proofs.Ytfehchhmghpfpaa.Bv
/-- A word with a bit made so. -/
def bset (x : BitVec 64) (b : Nat) (is : Bool) : BitVec 64 := if is = true then x ||| (1#64 <<< b) else x &&& ~~~(1#64 <<< b)
theorem one_bit (b i : Nat) (hb : b < 64) : (1#64 <<< b).getLsbD i = decide (i = b) := by
  rw [BitVec.getLsbD_shiftLeft]
  by_cases h : i = b
  · subst h; simp [hb]
  · by_cases h2 : i < b
    · simp [h, h2]
    · have : i - b ≠ 0 := by omega
      simp [h, h2, this]
theorem bset_bit (x : BitVec 64) (b : Nat) (is : Bool) (hb : b < 64) (i : Nat) (hi : i < 64) : (bset x b is).getLsbD i = if i = b then is else x.getLsbD i := by
  unfold bset
  cases is
  · rw [if_neg (by decide), BitVec.getLsbD_and, BitVec.getLsbD_not, one_bit b i hb]
    by_cases h : i = b <;> simp [h, hi, hb]
  · rw [if_pos rfl, BitVec.getLsbD_or, one_bit b i hb]
    by_cases h : i = b <;> simp [h]
theorem shl1 (b : Nat) : BitVec.ofInt 64 (shl .u64 1 (b : Int)) = 1#64 <<< b := by
  have h := shl_u64 1#64 (b : Int)
  rw [show U 1#64 = 1 from rfl] at h
  rw [h, ofInt_U]; rfl
theorem setV_U (x : BitVec 64) (b : Nat) (is : Bool) : setV (U x) (b : Int) is = U (bset x b is) := by
  unfold setV bset
  cases is
  · rw [if_neg (by decide), if_neg (by decide), andNot_u64, ofInt_U, shl1]
  · rw [if_pos rfl, if_pos rfl, or_u64, ofInt_U, shl1]
theorem withV_U (x : BitVec 64) (b : Nat) (is : Bool) : withV (U x) (b : Int) is = U (bset x b is) := by
  unfold withV bset
  cases is
  · rw [if_neg (by decide), if_neg (by decide), andNot_u64, ofInt_U, shl1]
  · rw [if_pos rfl, if_pos rfl, or_u64, andNot_u64, ofInt_U, ofInt_U, shl1]
    congr 1
    apply BitVec.eq_of_getLsbD_eq; intro i hi
    rw [BitVec.getLsbD_or, BitVec.getLsbD_or, BitVec.getLsbD_and, BitVec.getLsbD_not]
    cases (1#64 <<< b).getLsbD i <;> simp [hi]
theorem onV_U (x : BitVec 64) (b : Nat) : onV (U x) (b : Int) = x.getLsbD b := by
  unfold onV
  rw [shr_u64, and_u64, ofInt_U, show BitVec.ofInt 64 1 = 1#64 from rfl]
  rw [show ((b : Int)).toNat = b by simp]
  have e : (x >>> b) &&& 1#64 = if x.getLsbD b = true then 1#64 else 0#64 := by
    apply BitVec.eq_of_getLsbD_eq; intro i hi
    rw [BitVec.getLsbD_and, BitVec.getLsbD_ushiftRight]
    by_cases h : i = 0
    · subst h; cases x.getLsbD b <;> simp_all
    · have h1 : (1#64).getLsbD i = false := by rw [show (1#64) = 1#64 <<< 0 from rfl, one_bit 0 i (by decide)]; simp [h]
      rw [h1]; cases x.getLsbD b <;> simp_all
  rw [e]
  cases x.getLsbD b <;> rfl
theorem sv_1 (x : BitVec 64) (is : Bool) : setV (U x) 1 is = U (bset x 1 is) := setV_U x 1 is
theorem wv_1 (x : BitVec 64) (is : Bool) : withV (U x) 1 is = U (bset x 1 is) := withV_U x 1 is
theorem sv_3 (x : BitVec 64) (is : Bool) : setV (U x) 3 is = U (bset x 3 is) := setV_U x 3 is
theorem wv_3 (x : BitVec 64) (is : Bool) : withV (U x) 3 is = U (bset x 3 is) := withV_U x 3 is
theorem sv_5 (x : BitVec 64) (is : Bool) : setV (U x) 5 is = U (bset x 5 is) := setV_U x 5 is
theorem wv_5 (x : BitVec 64) (is : Bool) : withV (U x) 5 is = U (bset x 5 is) := withV_U x 5 is
theorem sv_6 (x : BitVec 64) (is : Bool) : setV (U x) 6 is = U (bset x 6 is) := setV_U x 6 is
theorem wv_6 (x : BitVec 64) (is : Bool) : withV (U x) 6 is = U (bset x 6 is) := withV_U x 6 is
theorem sv_7 (x : BitVec 64) (is : Bool) : setV (U x) 7 is = U (bset x 7 is) := setV_U x 7 is
theorem wv_7 (x : BitVec 64) (is : Bool) : withV (U x) 7 is = U (bset x 7 is) := withV_U x 7 is
theorem sv_8 (x : BitVec 64) (is : Bool) : setV (U x) 8 is = U (bset x 8 is) := setV_U x 8 is
theorem wv_8 (x : BitVec 64) (is : Bool) : withV (U x) 8 is = U (bset x 8 is) := withV_U x 8 is
theorem sv_11 (x : BitVec 64) (is : Bool) : setV (U x) 11 is = U (bset x 11 is) := setV_U x 11 is
theorem wv_11 (x : BitVec 64) (is : Bool) : withV (U x) 11 is = U (bset x 11 is) := withV_U x 11 is
theorem sv_12 (x : BitVec 64) (is : Bool) : setV (U x) 12 is = U (bset x 12 is) := setV_U x 12 is
theorem wv_12 (x : BitVec 64) (is : Bool) : withV (U x) 12 is = U (bset x 12 is) := withV_U x 12 is
theorem sv_17 (x : BitVec 64) (is : Bool) : setV (U x) 17 is = U (bset x 17 is) := setV_U x 17 is
theorem wv_17 (x : BitVec 64) (is : Bool) : withV (U x) 17 is = U (bset x 17 is) := withV_U x 17 is
theorem sv_38 (x : BitVec 64) (is : Bool) : setV (U x) 38 is = U (bset x 38 is) := setV_U x 38 is
theorem wv_38 (x : BitVec 64) (is : Bool) : withV (U x) 38 is = U (bset x 38 is) := withV_U x 38 is
theorem sv_39 (x : BitVec 64) (is : Bool) : setV (U x) 39 is = U (bset x 39 is) := setV_U x 39 is
theorem wv_39 (x : BitVec 64) (is : Bool) : withV (U x) 39 is = U (bset x 39 is) := withV_U x 39 is
theorem ov_0 (x : BitVec 64) : onV (U x) 0 = x.getLsbD 0 := onV_U x 0
theorem ov_1 (x : BitVec 64) : onV (U x) 1 = x.getLsbD 1 := onV_U x 1
theorem ov_3 (x : BitVec 64) : onV (U x) 3 = x.getLsbD 3 := onV_U x 3
theorem ov_5 (x : BitVec 64) : onV (U x) 5 = x.getLsbD 5 := onV_U x 5
theorem ov_7 (x : BitVec 64) : onV (U x) 7 = x.getLsbD 7 := onV_U x 7
theorem ov_8 (x : BitVec 64) : onV (U x) 8 = x.getLsbD 8 := onV_U x 8
theorem ov_11 (x : BitVec 64) : onV (U x) 11 = x.getLsbD 11 := onV_U x 11
theorem ov_12 (x : BitVec 64) : onV (U x) 12 = x.getLsbD 12 := onV_U x 12
theorem ov_17 (x : BitVec 64) : onV (U x) 17 = x.getLsbD 17 := onV_U x 17
theorem ov_39 (x : BitVec 64) : onV (U x) 39 = x.getLsbD 39 := onV_U x 39
theorem ov_63 (x : BitVec 64) : onV (U x) 63 = x.getLsbD 63 := onV_U x 63
end Go.Proofs.Ytfehchhmghpfpaa.Hx
