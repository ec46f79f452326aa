/- What bits.Field and bits.Put tell, as bit vectors. -/
import Derived.Test.YthdgkafcgaohiaaQx6
import Derived.Test.YthdgkafcgaohiaaQx1
import Derived.Test.YthdgkafcgaohiaaArr
set_option linter.unusedSimpArgs false
set_option linter.unusedVariables false
namespace Go.Proofs.Ythdgkafcgaohiaa.QF
open Go.RowKit Go.Proofs.Ythdgkafcgaohiaa.Q Go.Proofs.YthdgkafcgaohiaaW.PrintWords Go.Proofs.YthdgkafcgaohiaaW.PrintLast Go.Proofs.YthdgkafcgaohiaaW.PrintMore Go.Proofs.Ythdgkafcgaohiaa.Bv

def fieldB (w : BitVec 64) (lo n : Int) : BitVec 64 := if lo < 0 then 0#64 else (w >>> lo.toNat) &&& mk n.toNat
def putB (w : BitVec 64) (lo n : Int) (v : BitVec 64) : BitVec 64 := if lo < 0 then w else (w &&& ~~~(mk n.toNat <<< lo.toNat)) ||| ((v <<< lo.toNat) &&& (mk n.toNat <<< lo.toNat))

theorem mask_eq (a : Int) : bits_Mask.f a = some (U (mk a.toNat)) := by
  unfold bits_Mask.f
  by_cases h0 : a ≤ 0
  · rw [if_pos h0, show a.toNat = 0 by omega]; rfl
  rw [if_neg h0]
  by_cases h1 : a > 63
  · rw [if_pos h1, mk_all _ (by omega)]; rfl
  rw [if_neg h1, if_pos (by omega), show (1 : Int) = U 1#64 from rfl, shl_u64, wrap_u64, sub_UU]
  have := mk_small ⟨a.toNat, by omega⟩
  simp only at this
  rw [this]
theorem width_bad (lo n : Int) (h : lo < 0 ∨ lo > 63 ∨ n < 1) : bits_width.f lo n = some 0 := by
  unfold bits_width.f
  by_cases h0 : lo < 0
  · rw [if_pos h0]
  rw [if_neg h0]
  by_cases h1 : lo > 63
  · rw [if_pos h1]
  rw [if_neg h1, if_pos (by omega)]
theorem width_ok (lo n : Int) (h0 : 0 ≤ lo) (h1 : lo ≤ 63) (h2 : 1 ≤ n) : ∃ k : Int, bits_width.f lo n = some k ∧ 0 < k ∧ k.toNat = min n.toNat (64 - lo.toNat) := by
  unfold bits_width.f
  rw [if_neg (by omega), if_neg (by omega), if_neg (by omega)]
  refine ⟨_, rfl, ?_, ?_⟩
  · unfold mn wrap64; split <;> omega
  · unfold mn wrap64; split <;> omega
theorem shr_mk (w : BitVec 64) (l k : Nat) : (w >>> l) &&& mk (min k (64 - l)) = (w >>> l) &&& mk k := by
  apply BitVec.eq_of_getLsbD_eq; intro i hi
  rw [BitVec.getLsbD_and, BitVec.getLsbD_and, BitVec.getLsbD_ushiftRight, mk_bit, mk_bit]
  by_cases h : l + i < 64
  · congr 2; apply decide_eq_decide.2; omega
  · rw [BitVec.getLsbD_of_ge _ _ (by omega)]; simp
theorem mk_shl (l k : Nat) : mk (min k (64 - l)) <<< l = mk k <<< l := by
  apply BitVec.eq_of_getLsbD_eq; intro i hi
  rw [BitVec.getLsbD_shiftLeft, BitVec.getLsbD_shiftLeft, mk_bit, mk_bit]
  by_cases h : i < l
  · simp [h]
  · congr 2; apply decide_eq_decide.2; omega
theorem field_eq (w : BitVec 64) (lo n : Int) : bits_Field.f (U w) lo n = some (U (fieldB w lo n)) := by
  unfold bits_Field.f fieldB
  by_cases h0 : lo < 0
  · rw [width_bad lo n (.inl h0)]; simp only [Option.bind_some, if_true]; rw [if_pos h0]; rfl
  by_cases h1 : lo > 63
  · rw [width_bad lo n (.inr (.inl h1)), if_neg h0]; simp only [Option.bind_some, if_true]
    congr 1; rw [show (0 : Int) = U 0#64 from rfl]; congr 1
    apply BitVec.eq_of_getLsbD_eq; intro i hi
    rw [BitVec.getLsbD_and, BitVec.getLsbD_ushiftRight, BitVec.getLsbD_of_ge w _ (by omega)]; simp
  by_cases h2 : n < 1
  · rw [width_bad lo n (.inr (.inr h2)), if_neg h0]; simp only [Option.bind_some, if_true]; rw [show n.toNat = 0 by omega]
    congr 1; rw [show (0 : Int) = U 0#64 from rfl]; congr 1
    apply BitVec.eq_of_getLsbD_eq; intro i hi
    rw [BitVec.getLsbD_and, mk_bit]; simp
  obtain ⟨k, hk, hk0, hk1⟩ := width_ok lo n (by omega) (by omega) (by omega)
  rw [hk, if_neg h0]; simp only [Option.bind_some]
  rw [if_neg (by omega), if_pos (by omega), mask_eq]
  simp only [Option.bind_some]
  rw [shr_u64, and_u64, ofInt_U, ofInt_U, hk1, shr_mk]
theorem field_bit (w : BitVec 64) (lo n : Int) (i : Nat) : (fieldB w lo n).getLsbD i = (decide (0 ≤ lo) && decide (i < 64) && decide ((i : Int) < n) && w.getLsbD (lo.toNat + i)) := by
  unfold fieldB
  by_cases h0 : lo < 0
  · rw [if_pos h0]; simp [show ¬ (0 ≤ lo) by omega]
  · rw [if_neg h0, BitVec.getLsbD_and, BitVec.getLsbD_ushiftRight, mk_bit, show decide (i < n.toNat) = decide ((i : Int) < n) from decide_eq_decide.2 (by omega)]
    simp [show 0 ≤ lo by omega]
    cases w.getLsbD (lo.toNat + i) <;> simp
theorem put_eq (w : BitVec 64) (lo n : Int) (v : BitVec 64) : bits_Put.f (U w) lo n (U v) = some (U (putB w lo n v)) := by
  unfold bits_Put.f putB
  by_cases h0 : lo < 0
  · rw [width_bad lo n (.inl h0)]; simp only [Option.bind_some, if_true]; rw [if_pos h0]
  by_cases h1 : lo > 63
  · rw [width_bad lo n (.inr (.inl h1)), if_neg h0]; simp only [Option.bind_some, if_true]
    rw [BitVec.shiftLeft_eq_zero (x := mk n.toNat) (by omega)]; simp; rw [show (18446744073709551615#64) = BitVec.allOnes 64 from rfl, BitVec.and_allOnes]
  by_cases h2 : n < 1
  · rw [width_bad lo n (.inr (.inr h2)), if_neg h0]; simp only [Option.bind_some, if_true]; rw [show n.toNat = 0 by omega, show mk 0 = 0#64 from rfl]; simp; rw [show (18446744073709551615#64) = BitVec.allOnes 64 from rfl, BitVec.and_allOnes]
  obtain ⟨k, hk, hk0, hk1⟩ := width_ok lo n (by omega) (by omega) (by omega)
  rw [hk, if_neg h0]; simp only [Option.bind_some]
  rw [if_neg (by omega), mask_eq]
  simp only [Option.bind_some]
  rw [if_pos (by omega), shl_u64, shl_u64, and_u64, andNot_u64, or_u64, ofInt_U, ofInt_U, ofInt_U, ofInt_U, ofInt_U, hk1, mk_shl]
theorem mkshl_bit (n l i : Nat) : (mk n <<< l).getLsbD i = (decide (i < 64) && decide (l ≤ i) && decide (i - l < n)) := by
  rw [BitVec.getLsbD_shiftLeft, mk_bit]
  by_cases h1 : i < 64
  · by_cases h2 : i < l
    · simp [h1, h2, show ¬ l ≤ i by omega]
    · simp [h1, h2, show l ≤ i by omega, show i - l < 64 by omega]
  · simp [h1]
theorem put_bit (w : BitVec 64) (lo n : Int) (v : BitVec 64) (i : Nat) : (putB w lo n v).getLsbD i = if 0 ≤ lo ∧ i < 64 ∧ lo.toNat ≤ i ∧ i - lo.toNat < n.toNat then v.getLsbD (i - lo.toNat) else w.getLsbD i := by
  unfold putB
  by_cases h0 : lo < 0
  · rw [if_pos h0, if_neg (by omega)]
  rw [if_neg h0, BitVec.getLsbD_or, BitVec.getLsbD_and, BitVec.getLsbD_and, BitVec.getLsbD_not, mkshl_bit, BitVec.getLsbD_shiftLeft]
  by_cases h1 : i < 64
  · by_cases h2 : lo.toNat ≤ i
    · by_cases h3 : i - lo.toNat < n.toNat
      · rw [if_pos ⟨by omega, h1, h2, h3⟩]; simp [h1, h2, h3, show ¬ i < lo.toNat by omega]
      · rw [if_neg (by omega)]; simp [h1, h2, h3]
    · rw [if_neg (by omega)]; simp [h1, h2, show i < lo.toNat by omega]
  · rw [if_neg (by omega), BitVec.getLsbD_of_ge _ _ (by omega)]; simp [h1]
end Go.Proofs.Ythdgkafcgaohiaa.QF
