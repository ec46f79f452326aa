/- What is shifted there and back has its lowest bits still; a shift by the sign repeats bit 63. -/
import Derived.Test.YtbfdehkejohjhaaQx15
import Derived.Test.YtbfdehkejohjhaaQAluTwo
set_option linter.unusedSimpArgs false
set_option linter.unusedVariables false
namespace Go.Proofs.Ytbfdehkejohjhaa.Pure
open Go.RowKit Go.Proofs.Ytbfdehkejohjhaa.Q Go.Proofs.YtbfdehkejohjhaaW.PrintWords Go.Proofs.YtbfdehkejohjhaaW.PrintLast Go.Proofs.YtbfdehkejohjhaaW.PrintMore Go.Proofs.Ytbfdehkejohjhaa.Bv Go.Proofs.Ytbfdehkejohjhaa.QF Go.Proofs.Ytbfdehkejohjhaa.QA
theorem not_div (t p : Int) (hp : 0 < p) : (-1 - t) / p = -1 - t / p := by
  have h := Int.emod_add_mul_ediv t p
  have h0 := Int.emod_nonneg t (show p ≠ 0 by omega)
  have h1 := Int.emod_lt_of_pos t hp
  refine ((Int.ediv_emod_unique (a := -1 - t) (b := p) (r := p - 1 - t % p) (q := -1 - t / p) hp).mpr ⟨?_, by omega, by omega⟩).1
  rw [Int.mul_sub, Int.mul_comm p (-1)]; omega
theorem xor_max {a : Int} (h0 : 0 ≤ a) (h1 : a < 18446744073709551616) : Go.bits .xor .u64 IntKind.u64.max a = 18446744073709551615 - a := by
  obtain ⟨x, rfl⟩ := U_of h0 h1
  rw [xor_u64, ofInt_U, show BitVec.ofInt 64 IntKind.u64.max = BitVec.allOnes 64 from by decide, BitVec.allOnes_xor]
  unfold U; rw [BitVec.toNat_not]; have := x.isLt; omega
theorem back_nat (a n : Nat) (hn : n ≤ 64) : a * 2 ^ n % 18446744073709551616 / 2 ^ n = a % 2 ^ (64 - n) := by
  rw [show 18446744073709551616 = 2 ^ (64 - n) * 2 ^ n by rw [← Nat.pow_add, show 64 - n + n = 64 by omega], Nat.mul_mod_mul_right, Nat.mul_div_cancel _ (Nat.two_pow_pos n)]
theorem back_int {a : Int} (h0 : 0 ≤ a) (n : Nat) (hn : n ≤ 64) : a * 2 ^ n % 18446744073709551616 / 2 ^ n = a % 2 ^ (64 - n) := by
  obtain ⟨m, rfl⟩ := Int.eq_ofNat_of_zero_le h0
  have h := congrArg (fun z : Nat => (z : Int)) (back_nat m n hn)
  simpa using h
theorem mask_int {a : Int} (h0 : 0 ≤ a) (h1 : a < 18446744073709551616) (n : Nat) (hn : n ≤ 63) : Go.bits .and .u64 a (2 ^ n - 1) = a % 2 ^ n := by
  obtain ⟨m, rfl⟩ := Int.eq_ofNat_of_zero_le h0
  have hp : 2 ^ n ≤ 2 ^ 63 := Nat.pow_le_pow_right (by decide) hn
  have hq := Nat.two_pow_pos n
  have e : ((2 : Int) ^ n - 1) = ((2 ^ n - 1 : Nat) : Int) := by rw [Int.ofNat_sub (by omega)]; simp
  rw [e, u64_and_nat _ _ (by omega) (by omega), Nat.and_two_pow_sub_one_eq_mod]; simp
theorem shifts_j0 (k : Nat) {a b : Int} (a0 : 0 ≤ a) (a1 : a < 18446744073709551616) (b0 : 0 ≤ b) (b1 : b < 18446744073709551616) : mezzaninelaw21_AluShifts.j0 (k + 7) a b false = some true := by
  have v42 : (V 42 0 a b 0).1 = sg a / 2 ^ (b % 64).toNat % 18446744073709551616 := rfl
  have v41 : (V 41 0 a b 0).1 = a / 2 ^ (b % 64).toNat := rfl
  have c0 : 0 ≤ 18446744073709551615 - a := by omega
  have c1 : 18446744073709551615 - a < 18446744073709551616 := by omega
  have v41' : (V 41 0 (18446744073709551615 - a) b 0).1 = (18446744073709551615 - a) / 2 ^ (b % 64).toNat := rfl
  have hp : (0 : Int) < 2 ^ (b % 64).toNat := Int.pow_pos (by decide)
  rw [mezzaninelaw21_AluShifts.j0, if_neg (by decide), value_eq k 42 a0 a1 b0 b1, bsm, value_eq k 41 a0 a1 b0 b1, bsm, xor_max a0 a1, value_eq k 41 c0 c1 b0 b1, bsm, alu_wakes k, bsm, v42, v41, v41']
  generalize (2 : Int) ^ (b % 64).toNat = p at hp ⊢
  by_cases h : a / 9223372036854775808 = 0
  · have h2 : sg a = a := by unfold sg; rw [if_neg (by omega)]
    have d0 := Int.ediv_nonneg a0 (Int.le_of_lt hp)
    have d1 := Int.ediv_le_self p a0
    rw [if_pos h, h2, if_pos (by omega), if_neg (by omega)]
  · have h3 : a / 9223372036854775808 = 1 := by omega
    have h2 : sg a = a - 18446744073709551616 := by unfold sg; rw [if_pos (by omega)]
    rw [if_neg h, if_pos h3, h2]
    have e := not_div (a - 18446744073709551616) p hp
    rw [show -1 - (a - 18446744073709551616) = 18446744073709551615 - a by omega] at e
    have l0 : (a - 18446744073709551616) / p < 0 := Int.ediv_neg_of_neg_of_pos (by omega) hp
    have l1 : 0 ≤ (18446744073709551615 - a) / p := Int.ediv_nonneg c0 (Int.le_of_lt hp)
    have l2 := Int.ediv_le_self p c0
    rw [xor_max (by omega) (by omega), e, if_pos (by omega)]
theorem AluShifts : mezzaninelaw21_AluShifts.Pure := by
  intro a b ha hb
  obtain ⟨a0, a1⟩ := u64_in ha; obtain ⟨b0, b1⟩ := u64_in hb
  have v37 : (V 37 0 a b 0).1 = a * 2 ^ (b % 64).toNat % 18446744073709551616 := rfl
  have c0 : 0 ≤ a * 2 ^ (b % 64).toNat % 18446744073709551616 := by omega
  have c1 : a * 2 ^ (b % 64).toNat % 18446744073709551616 < 18446744073709551616 := by omega
  have v41 : (V 41 0 (a * 2 ^ (b % 64).toNat % 18446744073709551616) b 0).1 = a * 2 ^ (b % 64).toNat % 18446744073709551616 / 2 ^ (b % 64).toNat := rfl
  refine ⟨20, ?_⟩
  unfold mezzaninelaw21_AluShifts.f
  rw [value_eq 14 37 a0 a1 b0 b1, bsm, v37, value_eq 14 41 c0 c1 b0 b1, bsm, v41, and63 b0 b1, back_int a0 _ (by omega), IntKind.wrap_u64, show (64 - b % 64) % 18446744073709551616 = 64 - b % 64 by omega, if_pos (by omega)]
  have hj := shifts_j0 13 a0 a1 b0 b1
  by_cases h : b % 64 = 0
  · rw [h]
    have e : a % 2 ^ (64 - (0 : Int).toNat) = a := Int.emod_eq_of_lt a0 a1
    rw [e, bne_self_eq_false, if_pos rfl, if_pos rfl, hj]
    split <;> rfl
  · have hs : IntKind.u64.wrap (shl .u64 1 (64 - b % 64) - 1) = 2 ^ (64 - (b % 64).toNat) - 1 := by
      have hp : 2 ^ (64 - (b % 64).toNat) ≤ 2 ^ 63 := Nat.pow_le_pow_right (by decide) (by omega)
      have hq := Nat.two_pow_pos (64 - (b % 64).toNat)
      have e : ((2 : Int) ^ (64 - (b % 64).toNat)) = ((2 ^ (64 - (b % 64).toNat) : Nat) : Int) := by simp
      rw [shl_eq _ _ (by omega) (by omega), Int.one_mul, show (64 - b % 64).toNat = 64 - (b % 64).toNat by omega, e, IntKind.wrap_u64]; omega
    rw [hs, mask_int a0 a1 _ (by omega), if_pos rfl, if_neg h]; exact hj
end Go.Proofs.Ytbfdehkejohjhaa.Pure
