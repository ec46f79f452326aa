/- What the printed functions of package bits tell, as bit vectors. -/
import Derived.Test.YtkcgihpnlekfnaaQx1
import Derived.Test.YtkcgihpnlekfnaaQx4
import Derived.Test.YtkcgihpnlekfnaaQx2
import Derived.Test.YtkcgihpnlekfnaaArr
set_option linter.unusedSimpArgs false
set_option linter.unusedVariables false
namespace Go.Proofs.Ytkcgihpnlekfnaa.QF
open Go.RowKit Go.Proofs.Ytkcgihpnlekfnaa.Q Go.Proofs.YtkcgihpnlekfnaaW.PrintWords Go.Proofs.YtkcgihpnlekfnaaW.PrintLast Go.Proofs.YtkcgihpnlekfnaaW.PrintMore Go.Proofs.Ytkcgihpnlekfnaa.Bv

def fieldB (w : BitVec 64) (lo n : Int) : BitVec 64 := if lo < 0 then 0#64 else (w >>> lo.toNat) &&& mk n.toNat
def putB (w : BitVec 64) (lo n : Int) (v : BitVec 64) : BitVec 64 := if lo < 0 then w else (w &&& ~~~(mk n.toNat <<< lo.toNat)) ||| ((v <<< lo.toNat) &&& (mk n.toNat <<< lo.toNat))
def sextB (w : BitVec 64) (n : Int) : BitVec 64 := if n < 1 then 0#64 else (w <<< (64 - n).toNat).sshiftRight (64 - n).toNat

theorem mask_eq (a : Int) : bits_Mask.f a = some (U (mk a.toNat)) := by
  unfold bits_Mask.f
  by_cases h0 : a ≤ 0
  · rw [if_pos h0, show a.toNat = 0 by omega]; rfl
  rw [if_neg h0]
  by_cases h1 : a > 63
  · rw [if_pos h1, mk_all _ (by omega)]; rfl
  rw [if_neg h1, if_pos (by omega), show (1 : Int) = U 1#64 from rfl, shl_u64, wrap_u64, sub_UU]
  have := mk_small ⟨a.toNat, by omega⟩
  simp only at this
  rw [this]
theorem width_bad (lo n : Int) (h : lo < 0 ∨ lo > 63 ∨ n < 1) : bits_width.f lo n = some 0 := by
  unfold bits_width.f
  by_cases h0 : lo < 0
  · rw [if_pos h0]
  rw [if_neg h0]
  by_cases h1 : lo > 63
  · rw [if_pos h1]
  rw [if_neg h1, if_pos (by omega)]
theorem width_ok (lo n : Int) (h0 : 0 ≤ lo) (h1 : lo ≤ 63) (h2 : 1 ≤ n) : ∃ k : Int, bits_width.f lo n = some k ∧ 0 < k ∧ k.toNat = min n.toNat (64 - lo.toNat) := by
  unfold bits_width.f
  rw [if_neg (by omega), if_neg (by omega), if_neg (by omega)]
  refine ⟨_, rfl, ?_, ?_⟩
  · unfold mn wrap64; split <;> omega
  · unfold mn wrap64; split <;> omega
theorem shr_mk (w : BitVec 64) (l k : Nat) : (w >>> l) &&& mk (min k (64 - l)) = (w >>> l) &&& mk k := by
  apply BitVec.eq_of_getLsbD_eq; intro i hi
  rw [BitVec.getLsbD_and, BitVec.getLsbD_and, BitVec.getLsbD_ushiftRight, mk_bit, mk_bit]
  by_cases h : l + i < 64
  · congr 2; apply decide_eq_decide.2; omega
  · rw [BitVec.getLsbD_of_ge _ _ (by omega)]; simp
theorem mk_shl (l k : Nat) : mk (min k (64 - l)) <<< l = mk k <<< l := by
  apply BitVec.eq_of_getLsbD_eq; intro i hi
  rw [BitVec.getLsbD_shiftLeft, BitVec.getLsbD_shiftLeft, mk_bit, mk_bit]
  by_cases h : i < l
  · simp [h]
  · congr 2; apply decide_eq_decide.2; omega
theorem field_eq (w : BitVec 64) (lo n : Int) : bits_Field.f (U w) lo n = some (U (fieldB w lo n)) := by
  unfold bits_Field.f fieldB
  by_cases h0 : lo < 0
  · rw [width_bad lo n (.inl h0)]; simp only [Option.bind_some, if_true]; rw [if_pos h0]; rfl
  by_cases h1 : lo > 63
  · rw [width_bad lo n (.inr (.inl h1)), if_neg h0]; simp only [Option.bind_some, if_true]
    congr 1; rw [show (0 : Int) = U 0#64 from rfl]; congr 1
    apply BitVec.eq_of_getLsbD_eq; intro i hi
    rw [BitVec.getLsbD_and, BitVec.getLsbD_ushiftRight, BitVec.getLsbD_of_ge w _ (by omega)]; simp
  by_cases h2 : n < 1
  · rw [width_bad lo n (.inr (.inr h2)), if_neg h0]; simp only [Option.bind_some, if_true]; rw [show n.toNat = 0 by omega]
    congr 1; rw [show (0 : Int) = U 0#64 from rfl]; congr 1
    apply BitVec.eq_of_getLsbD_eq; intro i hi
    rw [BitVec.getLsbD_and, mk_bit]; simp
  obtain ⟨k, hk, hk0, hk1⟩ := width_ok lo n (by omega) (by omega) (by omega)
  rw [hk, if_neg h0]; simp only [Option.bind_some]
  rw [if_neg (by omega), if_pos (by omega), mask_eq]
  simp only [Option.bind_some]
  rw [shr_u64, and_u64, ofInt_U, ofInt_U, hk1, shr_mk]
theorem sext_eq (w : BitVec 64) (n : Int) (hn : n < 9223372036854775808) : bits_Sext.f (U w) n = some (U (sextB w n)) := by
  unfold bits_Sext.f sextB
  by_cases h0 : n < 1
  · rw [if_pos h0, if_pos h0]; rfl
  rw [if_neg h0, if_neg h0]
  by_cases h1 : n > 63
  · rw [if_pos h1, show (64 - n).toNat = 0 by omega]; congr 2
    apply BitVec.eq_of_getLsbD_eq; intro i hi
    simp [BitVec.getLsbD_sshiftRight, hi]
  have e : wrap64 (64 - n) = 64 - n := by unfold wrap64; omega
  rw [if_neg h1, e, if_pos (by omega), shl_u64, wrap64_S, ofInt_U, shr_i64, wrap_u64, ofInt_S]
theorem sext_bit (w : BitVec 64) (n : Int) (h : 1 ≤ n) (h' : n ≤ 64) (i : Nat) : (sextB w n).getLsbD i = (decide (i < 64) && (if (i : Int) < n then w.getLsbD i else w.getLsbD (n - 1).toNat)) := by
  unfold sextB
  rw [if_neg (by omega), BitVec.getLsbD_sshiftRight]
  obtain ⟨s, hs⟩ : ∃ s : Nat, s = (64 - n).toNat := ⟨_, rfl⟩
  rw [← hs]
  by_cases hi : i < 64
  · rw [show (decide (64 ≤ i)) = false by simp; omega, show (decide (i < 64)) = true by simpa using hi]
    by_cases h2 : (i : Int) < n
    · rw [if_pos (by omega), if_pos h2, BitVec.getLsbD_shiftLeft, show decide (s + i < 64) = true by simp; omega, show decide (s + i < s) = false by simp,
        show s + i - s = i by omega]; simp
    · rw [if_neg (by omega), if_neg h2, BitVec.msb_eq_getLsbD_last, BitVec.getLsbD_shiftLeft, show decide (64 - 1 < 64) = true from rfl, show decide (64 - 1 < s) = false by simp; omega,
        show 64 - 1 - s = (n - 1).toNat by omega]; simp
  · simp [hi, show 64 ≤ i by omega]
theorem field_bit (w : BitVec 64) (lo n : Int) (i : Nat) : (fieldB w lo n).getLsbD i = (decide (0 ≤ lo) && decide (i < 64) && decide ((i : Int) < n) && w.getLsbD (lo.toNat + i)) := by
  unfold fieldB
  by_cases h0 : lo < 0
  · rw [if_pos h0]; simp [show ¬ (0 ≤ lo) by omega]
  · rw [if_neg h0, BitVec.getLsbD_and, BitVec.getLsbD_ushiftRight, mk_bit, show decide (i < n.toNat) = decide ((i : Int) < n) from decide_eq_decide.2 (by omega)]
    simp [show 0 ≤ lo by omega]
    cases w.getLsbD (lo.toNat + i) <;> simp
theorem put_eq (w : BitVec 64) (lo n : Int) (v : BitVec 64) : bits_Put.f (U w) lo n (U v) = some (U (putB w lo n v)) := by
  unfold bits_Put.f putB
  by_cases h0 : lo < 0
  · rw [width_bad lo n (.inl h0)]; simp only [Option.bind_some, if_true]; rw [if_pos h0]
  by_cases h1 : lo > 63
  · rw [width_bad lo n (.inr (.inl h1)), if_neg h0]; simp only [Option.bind_some, if_true]
    rw [BitVec.shiftLeft_eq_zero (x := mk n.toNat) (by omega)]; simp; rw [show (18446744073709551615#64) = BitVec.allOnes 64 from rfl, BitVec.and_allOnes]
  by_cases h2 : n < 1
  · rw [width_bad lo n (.inr (.inr h2)), if_neg h0]; simp only [Option.bind_some, if_true]; rw [show n.toNat = 0 by omega, show mk 0 = 0#64 from rfl]; simp; rw [show (18446744073709551615#64) = BitVec.allOnes 64 from rfl, BitVec.and_allOnes]
  obtain ⟨k, hk, hk0, hk1⟩ := width_ok lo n (by omega) (by omega) (by omega)
  rw [hk, if_neg h0]; simp only [Option.bind_some]
  rw [if_neg (by omega), mask_eq]
  simp only [Option.bind_some]
  rw [if_pos (by omega), shl_u64, shl_u64, and_u64, andNot_u64, or_u64, ofInt_U, ofInt_U, ofInt_U, ofInt_U, ofInt_U, hk1, mk_shl]
theorem mkshl_bit (n l i : Nat) : (mk n <<< l).getLsbD i = (decide (i < 64) && decide (l ≤ i) && decide (i - l < n)) := by
  rw [BitVec.getLsbD_shiftLeft, mk_bit]
  by_cases h1 : i < 64
  · by_cases h2 : i < l
    · simp [h1, h2, show ¬ l ≤ i by omega]
    · simp [h1, h2, show l ≤ i by omega, show i - l < 64 by omega]
  · simp [h1]
theorem put_bit (w : BitVec 64) (lo n : Int) (v : BitVec 64) (i : Nat) : (putB w lo n v).getLsbD i = if 0 ≤ lo ∧ i < 64 ∧ lo.toNat ≤ i ∧ i - lo.toNat < n.toNat then v.getLsbD (i - lo.toNat) else w.getLsbD i := by
  unfold putB
  by_cases h0 : lo < 0
  · rw [if_pos h0, if_neg (by omega)]
  rw [if_neg h0, BitVec.getLsbD_or, BitVec.getLsbD_and, BitVec.getLsbD_and, BitVec.getLsbD_not, mkshl_bit, BitVec.getLsbD_shiftLeft]
  by_cases h1 : i < 64
  · by_cases h2 : lo.toNat ≤ i
    · by_cases h3 : i - lo.toNat < n.toNat
      · rw [if_pos ⟨by omega, h1, h2, h3⟩]; simp [h1, h2, h3, show ¬ i < lo.toNat by omega]
      · rw [if_neg (by omega)]; simp [h1, h2, h3]
    · rw [if_neg (by omega)]; simp [h1, h2, show i < lo.toNat by omega]
  · rw [if_neg (by omega), BitVec.getLsbD_of_ge _ _ (by omega)]; simp [h1]
theorem bits_awake : mezzaninelaw01_awake.f 9 = some true := by kernel_rfl
theorem canon_eq (x : BitVec 64) (n : Int) (h1 : n < 9223372036854775808) : bits_Canon.f (U x) n = some (decide (n > 0) && decide (sextB x n = x)) := by
  unfold bits_Canon.f
  by_cases h : n > 0
  · rw [if_pos h, sext_eq x n h1]; simp only [Option.bind_some, decide_eq_true h, Bool.true_and]
    congr 1
    rw [Bool.eq_iff_iff, beq_iff_eq, decide_eq_true_eq]; exact U_inj
  · rw [if_neg h, decide_eq_false h]; rfl
end Go.Proofs.Ytkcgihpnlekfnaa.QF
