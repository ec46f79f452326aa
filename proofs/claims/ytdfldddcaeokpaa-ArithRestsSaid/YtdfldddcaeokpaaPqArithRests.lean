/- Quotient times divisor and rest are the dividend; how large the rest is. -/
import Derived.Test.YtdfldddcaeokpaaQx8
import Derived.Test.YtdfldddcaeokpaaQArith
set_option linter.unusedSimpArgs false
set_option linter.unusedVariables false
namespace Go.Proofs.Ytdfldddcaeokpaa.Pure
open Go.RowKit Go.Proofs.Ytdfldddcaeokpaa.Q Go.Proofs.YtdfldddcaeokpaaW.PrintWords Go.Proofs.YtdfldddcaeokpaaW.PrintLast Go.Proofs.Ytdfldddcaeokpaa.Bv Go.Proofs.Ytdfldddcaeokpaa.QF
theorem back_gen (m q r b s : Int) (hb : s % m = b % m) : ((q % m * b) % m + r % m) % m = (q * s + r) % m := by
  rw [← Int.add_emod]
  have e : (q % m * b) % m = (q * s) % m := by rw [Int.mul_emod, Int.emod_emod, ← hb, ← Int.mul_emod]
  rw [Int.add_emod, e, ← Int.add_emod]
theorem backu {a b : Int} (a0 : 0 ≤ a) (a1 : a < 18446744073709551616) : ((dvu a b * b) % 18446744073709551616 + rmu a b) % 18446744073709551616 = a := by
  unfold dvu rmu
  by_cases h : b = 0
  · rw [if_pos h, if_pos h, h]; omega
  · rw [if_neg h, if_neg h]
    have e := Int.mul_ediv_add_emod a b
    rw [Int.mul_comm]
    rw [Int.emod_add_emod, e]; omega
theorem backs {a b : Int} (a0 : 0 ≤ a) (a1 : a < 18446744073709551616) (b0 : 0 ≤ b) (b1 : b < 18446744073709551616) : ((dv a b * b) % 18446744073709551616 + rm a b) % 18446744073709551616 = a := by
  unfold dv rm
  by_cases h : b = 0
  · rw [if_pos h, if_pos h, h]; omega
  · rw [if_neg h, if_neg h, back_gen _ _ _ _ (sg b) (sg_mod b)]
    have e := Int.mul_tdiv_add_tmod (sg a) (sg b)
    rw [Int.mul_comm, e, sg_mod]; omega
theorem remu_lt {a b : Int} (b0 : 0 ≤ b) (h : ¬ b = 0) : rmu a b < b := by unfold rmu; rw [if_neg h]; exact Int.emod_lt_of_pos _ (by omega)
/-- The rest, read signed. -/
def rs (a b : Int) : Int := if b = 0 then sg a else (sg a).tmod (sg b)
theorem rs_bound {a b : Int} (h : sg b ≠ 0) : -(sg b).natAbs < (sg a).tmod (sg b) ∧ (sg a).tmod (sg b) < (sg b).natAbs := by
  have h1 : ((sg a).tmod (sg b)).natAbs < (sg b).natAbs := by
    rw [Int.natAbs_tmod]; exact Nat.mod_lt _ (Int.natAbs_pos.2 h)
  omega
theorem rs_sign {a b : Int} : (0 ≤ sg a → 0 ≤ rs a b) ∧ (sg a ≤ 0 → rs a b ≤ 0) := by
  unfold rs; split
  · omega
  · refine ⟨fun h => Int.tmod_nonneg _ h, fun h => ?_⟩
    have := Int.tmod_nonneg (sg b) (show 0 ≤ -sg a by omega)
    rw [Int.neg_tmod] at this; omega
theorem rs_eq {a b : Int} (a0 : 0 ≤ a) (a1 : a < 18446744073709551616) (b0 : 0 ≤ b) (b1 : b < 18446744073709551616) : wrap64 (rm a b) = rs a b := by
  have hr := sg_range b0 b1
  unfold rm rs
  by_cases h : b = 0
  · rw [if_pos h, if_pos h, sg_wrap a0 a1]
  · have hb := rs_bound (a := a) (b := b) (by rw [Ne, sg_zero b0 b1]; exact h)
    rw [if_neg h, if_neg h]; unfold wrap64; omega
theorem half_back (q b r a' b' a : Int) (h : ((q * b') % 18446744073709551616 + r) % 18446744073709551616 = a') (hb : b' % 4294967296 = b % 4294967296) (ha : a' % 4294967296 = a % 4294967296) :
    (((ext q * b) % 18446744073709551616 + ext r) % 18446744073709551616) % 4294967296 = a % 4294967296 := by
  have e1 := ext_mod q; have e2 := ext_mod r
  have e : (ext q * b) % 4294967296 = (q * b') % 4294967296 := by rw [Int.mul_emod, e1, ← hb, ← Int.mul_emod]
  generalize ext q * b = u at e ⊢
  generalize q * b' = v at e h
  omega
theorem j3_true (k : Nat) {a b : Int} (a0 : 0 ≤ a) (a1 : a < 18446744073709551616) (b0 : 0 ≤ b) (b1 : b < 18446744073709551616) :
    mezzaninelaw02_ArithRests.j3 (k + 1) a b = some true := by
  rw [mezzaninelaw02_ArithRests.j3, divw_eq, remw_eq, divuw_eq, remuw_eq]; simp only [Option.bind_some]
  rw [IntKind.wrap_u64, IntKind.wrap_u64, if_pos (half_back _ _ _ (ext a) (ext b) a (backs (ext_range a).1 (ext_range a).2 (ext_range b).1 (ext_range b).2) (ext_mod b) (ext_mod a)),
    IntKind.wrap_u64, IntKind.wrap_u64, half_back _ _ _ (a % 4294967296) (b % 4294967296) a (backu (by omega) (by omega)) (by omega) (by omega)]
  simp
theorem j2_true' (k : Nat) {a b : Int} (a0 : 0 ≤ a) (a1 : a < 18446744073709551616) (b0 : 0 ≤ b) (b1 : b < 18446744073709551616) (x : Bool) (hx : x = true → b ≠ 0 ∧ b ≠ 9223372036854775808) :
    mezzaninelaw02_ArithRests.j2 (k + 2) a b (rs a b) x = some true := by
  rw [mezzaninelaw02_ArithRests.j2, j3_true k a0 a1 b0 b1]
  cases x
  · rw [if_neg (by decide)]
  · rw [if_pos rfl]
    obtain ⟨h1, h2⟩ := hx rfl
    have hr := sg_range b0 b1
    have hb := rs_bound (a := a) (b := b) (by rw [Ne, sg_zero b0 b1]; exact h1)
    have er : rs a b = (sg a).tmod (sg b) := by unfold rs; rw [if_neg h1]
    have hn : sg b ≠ -9223372036854775808 := by unfold sg; split <;> omega
    rw [sg_wrap b0 b1, er]
    have w1 : wrap64 (-(sg b)) = -(sg b) := by unfold wrap64; omega
    have w2 : wrap64 (-(-(sg b))) = sg b := by unfold wrap64; omega
    rw [w1, w2]
    by_cases h : sg b < 0
    · rw [if_pos h, if_neg (by omega), if_neg (by omega)]
    · rw [if_neg h, if_neg (by omega), if_neg (by omega)]
theorem j1_true' (k : Nat) {a b : Int} (a0 : 0 ≤ a) (a1 : a < 18446744073709551616) (b0 : 0 ≤ b) (b1 : b < 18446744073709551616) :
    mezzaninelaw02_ArithRests.j1 (k + 3) a b (rs a b) false = some true := by
  rw [mezzaninelaw02_ArithRests.j1, if_neg (by decide)]
  by_cases h : b = 0
  · rw [if_pos h]; exact j2_true' k a0 a1 b0 b1 _ (fun h => by cases h)
  · rw [if_neg h]; exact j2_true' k a0 a1 b0 b1 _ (fun h' => ⟨h, by simpa using h'⟩)
theorem j0_true (k : Nat) {a b : Int} (a0 : 0 ≤ a) (a1 : a < 18446744073709551616) (b0 : 0 ≤ b) (b1 : b < 18446744073709551616) :
    mezzaninelaw02_ArithRests.j0 (k + 4) a b false = some true := by
  rw [mezzaninelaw02_ArithRests.j0, if_neg (by decide), rem_eq a0 a1 b0 b1]; simp only [Option.bind_some]
  rw [rs_eq a0 a1 b0 b1, sg_wrap a0 a1]
  have j := j1_true' k a0 a1 b0 b1
  obtain ⟨s1, s2⟩ := rs_sign (a := a) (b := b)
  by_cases h : rs a b < 0
  · rw [if_pos h, if_neg (by omega), if_neg (by omega)]; exact j
  · rw [if_neg h]
    by_cases h2 : rs a b > 0
    · rw [if_pos h2, decide_eq_false (by omega)]; exact j
    · rw [if_neg h2]; exact j
theorem ArithRests : mezzaninelaw02_ArithRests.Pure := by
  intro a b ha hb
  obtain ⟨a0, a1⟩ := u64_in ha; obtain ⟨b0, b1⟩ := u64_in hb
  refine ⟨4, ?_⟩
  unfold mezzaninelaw02_ArithRests.f
  rw [arith_awake, divu_eq a0 a1 b0, remu_eq a0, div_eq a0 a1 b0 b1, rem_eq a0 a1 b0 b1]; simp only [Option.bind_some]
  rw [if_pos trivial, IntKind.wrap_u64, IntKind.wrap_u64, if_pos (backu a0 a1), IntKind.wrap_u64, IntKind.wrap_u64, if_pos (backs a0 a1 b0 b1)]
  have j := j0_true 0 a0 a1 b0 b1
  by_cases h : b = 0
  · rw [if_pos h]; exact j
  · rw [if_neg h, decide_eq_false (by have := remu_lt (a := a) b0 h; omega)]; exact j
end Go.Proofs.Ytdfldddcaeokpaa.Pure
