/- How the upper halves of products hang together. -/
import Derived.Test.YtdfldddcaeokpaaQx2
import Derived.Test.YtdfldddcaeokpaaQArith
set_option linter.unusedSimpArgs false
set_option linter.unusedVariables false
namespace Go.Proofs.Ytdfldddcaeokpaa.Pure
open Go.RowKit Go.Proofs.Ytdfldddcaeokpaa.Q Go.Proofs.YtdfldddcaeokpaaW.PrintWords Go.Proofs.YtdfldddcaeokpaaW.PrintLast Go.Proofs.Ytdfldddcaeokpaa.Bv Go.Proofs.Ytdfldddcaeokpaa.QF
theorem hi_range (p : Int) : 0 ≤ hi p ∧ hi p < 18446744073709551616 := by unfold hi; omega
theorem hi_down {a : Int} (p s : Int) (h : s = p - 18446744073709551616 * a) : (hi s + a) % 18446744073709551616 = hi p := by unfold hi; omega
theorem hi_down2 {a b : Int} (p s : Int) (h : s = p - 18446744073709551616 * b - 18446744073709551616 * a + 18446744073709551616 * 18446744073709551616) : ((hi s + b) % 18446744073709551616 + a) % 18446744073709551616 = hi p := by unfold hi; omega
theorem small {a b : Int} (a0 : 0 < a) (b0 : 0 ≤ b) (b1 : b < 18446744073709551616) (a1 : a < 18446744073709551616) : hi (a * b) < a := by
  unfold hi
  have h := Int.mul_le_mul_of_nonneg_left (show b ≤ 18446744073709551615 by omega) (show 0 ≤ a by omega)
  have h0 := Int.mul_nonneg (show 0 ≤ a by omega) b0
  omega
theorem mono {a b c : Int} (a0 : 0 ≤ a) (a1 : a < 18446744073709551616) (b0 : 0 ≤ b) (h : b ≤ c) (c1 : c < 18446744073709551616) : hi (a * b) ≤ hi (a * c) := by
  have h1 := Int.mul_le_mul_of_nonneg_left h a0
  have r1 := mul_range a0 a1 b0 (by omega : b < 18446744073709551616)
  have r2 := mul_range a0 a1 (by omega : 0 ≤ c) c1
  unfold hi; omega
theorem j2_true (k : Nat) {a b c : Int} (a0 : 0 ≤ a) (a1 : a < 18446744073709551616) (b0 : 0 ≤ b) (b1 : b < 18446744073709551616) (c0 : 0 ≤ c) (c1 : c < 18446744073709551616) :
    mezzaninelaw02_ArithHighs.j2 (k + 1) a b c (hi (a * b)) false = some true := by
  rw [mezzaninelaw02_ArithHighs.j2, mulhu_eq a0 a1 c0 c1]; simp only [Option.bind_some]
  rw [if_neg (by decide)]
  have e (h : ¬ b > c) : decide (hi (a * b) ≤ hi (a * c)) = true := decide_eq_true (mono a0 a1 b0 (by omega) c1)
  by_cases h : a = 0
  · have hz : hi (a * b) = 0 := by rw [h, Int.zero_mul]; rfl
    rw [if_pos h, if_pos hz]
    by_cases h2 : b = 0
    · rw [if_pos h2]; split
      · rfl
      · rw [e (by assumption)]
    · rw [if_neg h2]; split
      · rfl
      · rw [e (by assumption)]
  · rw [if_neg h]
    by_cases h2 : b = 0
    · have hz : hi (a * b) = 0 := by rw [h2, Int.mul_zero]; rfl
      rw [if_pos h2, if_pos hz]; split
      · rfl
      · rw [e (by assumption)]
    · have s1 := small (show 0 < a by omega) b0 b1 a1
      have s2 := small (show 0 < b by omega) a0 a1 b1
      rw [Int.mul_comm] at s2
      rw [if_neg h2, if_neg (by omega), if_neg (by omega)]; split
      · rfl
      · rw [e (by assumption)]
theorem j1_true (k : Nat) {a b c : Int} (a0 : 0 ≤ a) (a1 : a < 18446744073709551616) (b0 : 0 ≤ b) (b1 : b < 18446744073709551616) (c0 : 0 ≤ c) (c1 : c < 18446744073709551616) :
    mezzaninelaw02_ArithHighs.j1 (k + 2) a b c (hi (a * b)) (hi (a * b)) (hi (a * b)) = some true := by
  rw [mezzaninelaw02_ArithHighs.j1, if_pos rfl, if_pos rfl, mulhu_eq b0 b1 a0 a1]; simp only [Option.bind_some]
  rw [if_pos (by rw [Int.mul_comm]), mulh_eq b0 b1 a0 a1, mulh_eq a0 a1 b0 b1]; simp only [Option.bind_some]
  rw [show (hi (sg b * sg a) != hi (sg a * sg b)) = false by rw [Int.mul_comm]; simp]
  exact j2_true k a0 a1 b0 b1 c0 c1
theorem ArithHighs : mezzaninelaw02_ArithHighs.Pure := by
  intro a b c ha hb hc
  obtain ⟨a0, a1⟩ := u64_in ha; obtain ⟨b0, b1⟩ := u64_in hb; obtain ⟨c0, c1⟩ := u64_in hc
  refine ⟨3, ?_⟩
  unfold mezzaninelaw02_ArithHighs.f
  rw [arith_awake, mulhu_eq a0 a1 b0 b1, mulhsu_eq a0 a1 b0 b1, mulh_eq a0 a1 b0 b1]; simp only [Option.bind_some]
  rw [if_pos trivial, mezzaninelaw02_ArithHighs.j0, mezzaninelaw02_ArithHighs.j0, sg_wrap a0 a1, sg_wrap b0 b1, IntKind.wrap_u64, IntKind.wrap_u64, IntKind.wrap_u64, IntKind.wrap_u64]
  have j := j1_true 0 a0 a1 b0 b1 c0 c1
  have ea : ∀ {x : Int}, 9223372036854775808 ≤ x → sg x = x - 18446744073709551616 := fun h => by unfold sg; rw [if_pos h]
  have eb : ∀ {x : Int}, ¬9223372036854775808 ≤ x → sg x = x := fun h => by unfold sg; rw [if_neg h]
  by_cases h : 9223372036854775808 ≤ a <;> by_cases h' : 9223372036854775808 ≤ b
  · rw [ea h, ea h', if_pos (by omega), if_pos (by omega), hi_down (a := b) (a * b) _ (by rw [Int.sub_mul]), hi_down2 (a := a) (b := b) (a * b) _ (by rw [Int.sub_mul, Int.mul_sub]; omega)]; exact j
  · rw [ea h, eb h', if_pos (by omega), if_neg (by omega), hi_down (a := b) (a * b) _ (by rw [Int.sub_mul])]; exact j
  · rw [eb h, ea h', if_neg (by omega), if_pos (by omega), hi_down (a := a) (a * b) _ (by rw [Int.mul_sub]; omega)]; exact j
  · rw [eb h, eb h', if_neg (by omega), if_neg (by omega)]; exact j
end Go.Proofs.Ytdfldddcaeokpaa.Pure
