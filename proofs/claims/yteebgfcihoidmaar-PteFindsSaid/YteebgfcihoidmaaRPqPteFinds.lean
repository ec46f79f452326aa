/- What is found is well formed, a leaf, and allowed; the address that it tells is the given one beneath the leaf's size; behind Down the level is above 0. -/
import Derived.Test.YteebgfcihoidmaaRQx12
import Derived.Test.YteebgfcihoidmaaRQPte
set_option linter.unusedSimpArgs false
set_option linter.unusedVariables false
namespace Go.Proofs.YteebgfcihoidmaaR.Pure
open Go.RowKit Go.Proofs.YteebgfcihoidmaaR.Q Go.Proofs.YteebgfcihoidmaaRW.PrintWords Go.Proofs.YteebgfcihoidmaaRW.PrintLast Go.Proofs.YteebgfcihoidmaaRW.PrintMore Go.Proofs.YteebgfcihoidmaaR.Bv Go.Proofs.YteebgfcihoidmaaR.QF
theorem level_eq (n : Int) (h0 : -9223372036854775808 ≤ n) (h1 : n < 9223372036854775808) : ∃ k : Nat, k < 3 ∧ Int.tmod (Go.bits .and .i64 n 3) 3 = (k : Int) := by
  obtain ⟨y, rfl⟩ := S_of h0 h1
  have e : Go.bits .and .i64 (S y) 3 = ((y.toNat % 4 : Nat) : Int) := by
    rw [and_i64, ofInt_S]
    have h2 : (y &&& BitVec.ofInt 64 3).toNat = y.toNat % 4 := by rw [BitVec.toNat_and]; exact Nat.and_two_pow_sub_one_eq_mod y.toNat 2
    unfold S; rw [BitVec.toInt_eq_toNat_of_lt (by omega), h2]
  rw [e, Int.tmod_eq_emod_of_nonneg (by omega)]
  exact ⟨y.toNat % 4 % 3, by omega, by omega⟩
theorem putU (w v : BitVec 64) (m : Nat) (hm : m ≤ 63) : U (putB w 0 (m : Int) v) = ((w.toNat / 2 ^ m * 2 ^ m + v.toNat % 2 ^ m : Nat) : Int) := by
  have h1 : putB w 0 (m : Int) v >>> m = w >>> m := by
    apply BitVec.eq_of_getLsbD_eq; intro i hi
    rw [BitVec.getLsbD_ushiftRight, BitVec.getLsbD_ushiftRight, put_bit, if_neg (by omega)]
  have h2 : putB w 0 (m : Int) v &&& mk m = v &&& mk m := by
    apply BitVec.eq_of_getLsbD_eq; intro i hi
    rw [BitVec.getLsbD_and, BitVec.getLsbD_and, mk_bit, put_bit]
    by_cases h : i < m
    · rw [if_pos (by omega)]; simp
    · simp [h]
  have g1 := congrArg BitVec.toNat h1
  have g2 := congrArg BitVec.toNat h2
  rw [BitVec.toNat_ushiftRight, BitVec.toNat_ushiftRight, Nat.shiftRight_eq_div_pow, Nat.shiftRight_eq_div_pow] at g1
  rw [and_mk_toNat _ _ (by omega), and_mk_toNat _ _ (by omega)] at g2
  have g3 := Nat.div_add_mod (putB w 0 (m : Int) v).toNat (2 ^ m)
  rw [g1, g2, Nat.mul_comm] at g3
  rw [U_nat, g3]
theorem pa_eq (x : BitVec 64) (k a : Nat) (hk : k < 3) (ha : a < 18446744073709551616) : pte_Pa.f (U x) (k : Int) (a : Int) = some ((pg x * 4096 / 2 ^ (12 + 9 * k) * 2 ^ (12 + 9 * k) + a % 2 ^ (12 + 9 * k) : Nat) : Int) := by
  unfold pte_Pa.f
  have hh : hd (k : Int) = k := by unfold hd; split; · omega
                                   split <;> omega
  have hp := pg_lt x
  rw [held_eq, bsm, page_eq, bsm, hh, show wrap64 (12 + wrap64 (9 * (k : Int))) = ((12 + 9 * k : Nat) : Int) by unfold wrap64; omega, IntKind.wrap_u64]
  have h := put_eq (BitVec.ofNat 64 (pg x * 4096)) 0 ((12 + 9 * k : Nat) : Int) (BitVec.ofNat 64 a)
  rw [putU _ _ _ (by omega), U_nat, U_nat, BitVec.toNat_ofNat, BitVec.toNat_ofNat, Nat.mod_eq_of_lt (a := a) ha, Nat.mod_eq_of_lt (a := pg x * 4096) (by omega)] at h
  rw [show (pg x : Int) * 4096 % 18446744073709551616 = ((pg x * 4096 : Nat) : Int) by omega, h, bsm]
theorem pow_facts {m : Nat} (h : m ≤ 63) : 0 < 2 ^ m ∧ 2 ^ m ≤ 9223372036854775808 := ⟨Nat.two_pow_pos m, by have := Nat.pow_le_pow_right (show 0 < 2 by decide) h; simpa using this⟩
theorem low_eq (m : Nat) (hm : m ≤ 63) : IntKind.u64.wrap ((shl .u64 1 (m : Int)) - 1) = ((2 ^ m - 1 : Nat) : Int) := by
  have hp := pow_facts hm
  have e : shl .u64 1 (m : Int) = ((2 ^ m : Nat) : Int) := by
    unfold shl; rw [Int.toNat_natCast, show IntKind.u64.bits = 64 from rfl, Nat.min_eq_left (by omega), IntKind.wrap_u64, Int.one_mul, show ((2 : Int) ^ m) = ((2 ^ m : Nat) : Int) by simp]; omega
  rw [e, IntKind.wrap_u64]; omega
theorem lowmask (a m : Nat) (ha : a < 18446744073709551616) (hm : m ≤ 63) : Go.bits .and .u64 (a : Int) ((2 ^ m - 1 : Nat) : Int) = ((a % 2 ^ m : Nat) : Int) := mask_nat a m (2 ^ m - 1) ha hm (by have := pow_facts hm; omega)
theorem split_page (p k : Nat) (hk : k < 3) : p * 4096 % 2 ^ (12 + 9 * k) = p % 2 ^ (9 * k) * 4096 := by
  rw [Nat.pow_add, show (2 : Nat) ^ 12 = 4096 from rfl, Nat.mul_comm p, Nat.mul_mod_mul_left, Nat.mul_comm]
theorem size_eq (k : Nat) (hk : k < 3) : IntKind.u64.wrap (wrap64 (12 + wrap64 (9 * (k : Int)))) = ((12 + 9 * k : Nat) : Int) := by
  have h1 : wrap64 (9 * (k : Int)) = 9 * (k : Int) := by unfold wrap64; omega
  have h2 : wrap64 (12 + 9 * (k : Int)) = 12 + 9 * (k : Int) := by unfold wrap64; omega
  rw [h1, h2, IntKind.wrap_u64]; omega
theorem size_pos (k : Nat) : (0 : Int) ≤ ((12 + 9 * k : Nat) : Int) := Int.natCast_nonneg _
theorem sum_eq {p q r : Nat} {P : Nat} (hp : p < 17592186044416) (hr : r < P) (hP : P ≤ 1073741824) (e : p * 4096 / P * P + 0 = p * 4096) :
    ((p * 4096 / P * P + r : Nat) : Int) = IntKind.u64.wrap (((p * 4096 : Nat) : Int) + (r : Int)) := by
  rw [IntKind.wrap_u64]; omega
theorem page_eq2 {p : Nat} (hp : p < 17592186044416) : IntKind.u64.wrap ((p : Int) * 4096) = ((p * 4096 : Nat) : Int) := by rw [IntKind.wrap_u64]; omega
theorem PteFinds : mezzaninelaw15_PteFinds.Pure := by
  intro e level a kind exec priv v sum mxr vmxr he hl ha hk hp
  obtain ⟨x, rfl⟩ := U_wf he
  obtain ⟨l0, l1⟩ := i64_in hl
  obtain ⟨a0, a1⟩ := u64_in ha
  obtain ⟨a, rfl⟩ := Int.eq_ofNat_of_zero_le a0
  obtain ⟨k, hk3, ek⟩ := level_eq level l0 l1
  refine ⟨6, ?_⟩
  unfold mezzaninelaw15_PteFinds.f
  have hh : hd (k : Int) = k := by unfold hd; split; · omega
                                   split <;> omega
  have hpg := pg_lt x
  have hm : 12 + 9 * k ≤ 63 := by omega
  have hpow := pow_facts hm
  have hm30 : 2 ^ (12 + 9 * k) ≤ 1073741824 := by
    have := Nat.pow_le_pow_right (show 0 < 2 by decide) (show 12 + 9 * k ≤ 30 by omega); simpa using this
  have hdm := Nat.div_add_mod (pg x * 4096) (2 ^ (12 + 9 * k))
  rw [Nat.mul_comm] at hdm
  have hlow := Nat.mod_lt a hpow.1
  have hsp := split_page (pg x) k hk3
  rw [ek, pte_awake 1, bsm, if_pos rfl, judge_eq x 5, bsm, pa_eq x k a hk3 (by omega), bsm,
    size_eq k hk3,
    if_pos (size_pos k), low_eq _ hm, lowmask _ _ (by omega) hm, lowmask _ _ (by omega) hm]
  have hQ : 2 ^ (12 + 9 * k) * 2 ^ (56 - (12 + 9 * k)) = 72057594037927936 := by rw [← Nat.pow_add, show 12 + 9 * k + (56 - (12 + 9 * k)) = 56 by omega]
  have hq : pg x * 4096 / 2 ^ (12 + 9 * k) < 2 ^ (56 - (12 + 9 * k)) := Nat.div_lt_of_lt_mul (by rw [hQ]; omega)
  have hq2 := Nat.mul_le_mul_right (2 ^ (12 + 9 * k)) (show pg x * 4096 / 2 ^ (12 + 9 * k) + 1 ≤ 2 ^ (56 - (12 + 9 * k)) from hq)
  have hpa : ¬((pg x * 4096 / 2 ^ (12 + 9 * k) * 2 ^ (12 + 9 * k) + a % 2 ^ (12 + 9 * k) : Nat) : Int) ≥ 72057594037927936 := by
    rw [Nat.mul_comm _ (2 ^ (56 - (12 + 9 * k)))] at hQ
    rw [Nat.add_mul, Nat.one_mul, hQ] at hq2
    omega
  have em : (pg x * 4096 / 2 ^ (12 + 9 * k) * 2 ^ (12 + 9 * k) + a % 2 ^ (12 + 9 * k)) % 2 ^ (12 + 9 * k) = a % 2 ^ (12 + 9 * k) := by
    rw [Nat.add_comm, Nat.add_mul_mod_self_right, Nat.mod_mod]
  rw [em, if_pos rfl, mezzaninelaw15_PteFinds.j0, decide_eq_false hpa, if_neg (by decide), ok_eq x 4, bsm, bsm, bsm, leaf_eq, bsm, bsm, bsm, allowed_eq, bsm, bsm, page_eq, bsm, bsm]
  have ew := page_eq2 hpg
  try rw [bsm]
  try rw [bsm]
  have hl2 := lowmask (pg x * 4096) (12 + 9 * k) (by omega) hm
  rw [ew, hl2, hsp]
  try rw [lowmask a (12 + 9 * k) (by omega) hm]
  unfold jd
  rw [hh]
  cases h1 : okE x
  · simp
  · cases h2 : lf x
    · simp
      by_cases hz : (k : Int) < 1
      · simp [hz, show k = 0 by omega]
      · have hk0 : 0 < k := by omega
        simp [hz]; rw [if_pos (by omega)]; simp; exact hk0
    · cases h4 : al x kind exec priv v sum mxr vmxr
      · simp
      · by_cases h3 : pg x % 2 ^ (9 * k) = 0
        · rw [h3] at hsp
          have hs := sum_eq (q := 0) hpg hlow hm30 (by omega)
          simp only [h3, and_self, if_true, reduceIte]; rw [hs]; simp
        · have h5 : ¬(pg x : Int) % 2 ^ (9 * k) = 0 := by
            intro h; apply h3; exact_mod_cast h
          have h4 : ¬((pg x % 2 ^ (9 * k) * 4096 : Nat) : Int) = 0 := by omega
          simp [h3, h5]
end Go.Proofs.YteebgfcihoidmaaR.Pure
