/- What the printed functions of package arith, and of its reference, tell, as whole numbers. -/
import Derived.Test.YtdfldddcaeokpaaQx1
import Derived.Test.YtdfldddcaeokpaaQx5
import Derived.Test.YtdfldddcaeokpaaQx4
import Derived.Test.YtdfldddcaeokpaaQx6
import Derived.Test.YtdfldddcaeokpaaBv
set_option linter.unusedSimpArgs false
set_option linter.unusedVariables false
namespace Go.Proofs.Ytdfldddcaeokpaa.QF
open Go.RowKit Go.Proofs.Ytdfldddcaeokpaa.Q Go.Proofs.YtdfldddcaeokpaaW.PrintWords Go.Proofs.YtdfldddcaeokpaaW.PrintLast Go.Proofs.YtdfldddcaeokpaaW.PrintMore Go.Proofs.Ytdfldddcaeokpaa.Bv

/-- A word, read signed. -/
def sg (a : Int) : Int := if 9223372036854775808 ≤ a then a - 18446744073709551616 else a
theorem sg_wrap {a : Int} (h0 : 0 ≤ a) (h1 : a < 18446744073709551616) : wrap64 a = sg a := by unfold wrap64 sg; split <;> omega
theorem sg_mod (a : Int) : sg a % 18446744073709551616 = a % 18446744073709551616 := by unfold sg; split <;> omega
theorem sg_range {a : Int} (h0 : 0 ≤ a) (h1 : a < 18446744073709551616) : -9223372036854775808 ≤ sg a ∧ sg a < 9223372036854775808 := by unfold sg; split <;> omega
theorem wrap_mod (a : Int) : wrap64 a % 18446744073709551616 = a % 18446744073709551616 := by unfold wrap64; omega
/-- The upper half. -/
def hi (x : Int) : Int := x / 18446744073709551616 % 18446744073709551616
theorem mul_range {a b : Int} (ha0 : 0 ≤ a) (ha : a < 18446744073709551616) (hb0 : 0 ≤ b) (hb : b < 18446744073709551616) : 0 ≤ a * b ∧ a * b < 340282366920938463463374607431768211456 := by
  have := Int.mul_le_mul (show a ≤ 18446744073709551615 by omega) (show b ≤ 18446744073709551615 by omega) hb0 (by decide)
  exact ⟨Int.mul_nonneg ha0 hb0, by omega⟩
theorem mul64_eq {a b : Int} (ha0 : 0 ≤ a) (ha : a < 18446744073709551616) (hb0 : 0 ≤ b) (hb : b < 18446744073709551616) : bits_Mul64.f a b = some (a * b / 18446744073709551616, a * b % 18446744073709551616) := by
  unfold bits_Mul64.f
  have m := mul64_arith a b ha0 ha hb0 hb
  simp only [IntKind.wrap_u64]
  rw [and_low32 a ha0 ha, and_low32 b hb0 hb, and_low32 _ (by omega) (by omega), m]
theorem mulhu_eq {a b : Int} (ha0 : 0 ≤ a) (ha : a < 18446744073709551616) (hb0 : 0 ≤ b) (hb : b < 18446744073709551616) : arith_Mulhu.f a b = some (hi (a * b)) := by
  unfold arith_Mulhu.f hi
  rw [mul64_eq ha0 ha hb0 hb]
  simp only [Option.bind_some]
  have := mul_range ha0 ha hb0 hb
  congr 1; omega
theorem mulhsu_eq {a b : Int} (ha0 : 0 ≤ a) (ha : a < 18446744073709551616) (hb0 : 0 ≤ b) (hb : b < 18446744073709551616) : arith_Mulhsu.f a b = some (hi (sg a * b)) := by
  unfold arith_Mulhsu.f
  rw [mulhu_eq ha0 ha hb0 hb, sg_wrap ha0 ha]
  simp only [Option.bind_some]
  unfold sg
  by_cases h : 9223372036854775808 ≤ a
  · rw [if_pos h, if_pos (by omega), IntKind.wrap_u64, Int.sub_mul]
    unfold hi; congr 1; omega
  · rw [if_neg h, if_neg (by omega)]
theorem mulh_eq {a b : Int} (ha0 : 0 ≤ a) (ha : a < 18446744073709551616) (hb0 : 0 ≤ b) (hb : b < 18446744073709551616) : arith_Mulh.f a b = some (hi (sg a * sg b)) := by
  unfold arith_Mulh.f
  rw [mulhsu_eq ha0 ha hb0 hb, sg_wrap hb0 hb]
  simp only [Option.bind_some]
  have hs := sg_mod a
  generalize sg a = s at hs ⊢
  unfold sg
  by_cases h : 9223372036854775808 ≤ b
  · rw [if_pos h, if_pos (by omega), IntKind.wrap_u64, Int.mul_sub]
    unfold hi; congr 1; omega
  · rw [if_neg h, if_neg (by omega)]
/-- The signed quotient, and the rest. -/
def dv (a b : Int) : Int := if b = 0 then 18446744073709551615 else (sg a).tdiv (sg b) % 18446744073709551616
def rm (a b : Int) : Int := if b = 0 then a else (sg a).tmod (sg b) % 18446744073709551616
theorem sg_zero {b : Int} (h0 : 0 ≤ b) (h1 : b < 18446744073709551616) : sg b = 0 ↔ b = 0 := by unfold sg; split <;> omega
theorem div_eq {a b : Int} (ha0 : 0 ≤ a) (ha : a < 18446744073709551616) (hb0 : 0 ≤ b) (hb : b < 18446744073709551616) : arith_Div.f a b = some (dv a b) := by
  unfold arith_Div.f dv
  by_cases h0 : b = 0
  · rw [if_pos h0, if_pos h0]
  rw [if_neg h0, if_neg h0]
  by_cases h1 : b = 18446744073709551615
  · rw [if_pos h1, IntKind.wrap_u64, show sg b = -1 by rw [h1]; rfl, Int.tdiv_neg, Int.tdiv_one]
    congr 1; have := sg_mod a; omega
  rw [if_neg h1, sg_wrap hb0 hb, sg_wrap ha0 ha, if_neg (by rw [sg_zero hb0 hb]; exact h0), IntKind.wrap_u64, wrap_mod]
theorem rem_eq {a b : Int} (ha0 : 0 ≤ a) (ha : a < 18446744073709551616) (hb0 : 0 ≤ b) (hb : b < 18446744073709551616) : arith_Rem.f a b = some (rm a b) := by
  unfold arith_Rem.f rm
  by_cases h0 : b = 0
  · rw [if_pos h0, if_pos h0]
  rw [if_neg h0, if_neg h0]
  by_cases h1 : b = 18446744073709551615
  · rw [if_pos h1, show sg b = -1 by rw [h1]; rfl, Int.tmod_neg, Int.tmod_one]; rfl
  rw [if_neg h1, sg_wrap hb0 hb, sg_wrap ha0 ha, if_neg (by rw [sg_zero hb0 hb]; exact h0), IntKind.wrap_u64]
def dvu (a b : Int) : Int := if b = 0 then 18446744073709551615 else a / b
def rmu (a b : Int) : Int := if b = 0 then a else a % b
theorem div_range {a b : Int} (ha0 : 0 ≤ a) (ha : a < 18446744073709551616) (hb0 : 0 ≤ b) : 0 ≤ a / b ∧ a / b < 18446744073709551616 :=
  ⟨Int.ediv_nonneg ha0 hb0, by have := Int.ediv_le_self b ha0; omega⟩
theorem divu_eq {a b : Int} (ha0 : 0 ≤ a) (ha : a < 18446744073709551616) (hb0 : 0 ≤ b) : arith_Divu.f a b = some (dvu a b) := by
  unfold arith_Divu.f dvu
  by_cases h0 : b = 0
  · rw [if_pos h0, if_pos h0]
  have := div_range ha0 ha hb0
  rw [if_neg h0, if_neg h0, IntKind.wrap_u64, Int.tdiv_eq_ediv_of_nonneg ha0]
  congr 1; omega
theorem remu_eq {a b : Int} (ha0 : 0 ≤ a) : arith_Remu.f a b = some (rmu a b) := by
  unfold arith_Remu.f rmu
  by_cases h0 : b = 0
  · rw [if_pos h0, if_pos h0]
  rw [if_neg h0, if_neg h0, Int.tmod_eq_emod_of_nonneg ha0]
theorem dvu_range {a b : Int} (ha0 : 0 ≤ a) (ha : a < 18446744073709551616) (hb0 : 0 ≤ b) : 0 ≤ dvu a b ∧ dvu a b < 18446744073709551616 := by
  unfold dvu; have := div_range ha0 ha hb0; split <;> omega
theorem rmu_range {a b : Int} (ha0 : 0 ≤ a) (ha : a < 18446744073709551616) (hb0 : 0 ≤ b) (hb : b < 18446744073709551616) : 0 ≤ rmu a b ∧ rmu a b < 18446744073709551616 := by
  unfold rmu; split
  · omega
  · have h1 := Int.emod_nonneg a (show b ≠ 0 by assumption)
    have h2 := Int.emod_lt_of_pos a (show 0 < b by omega); omega
theorem dv_range {a b : Int} : 0 ≤ dv a b ∧ dv a b < 18446744073709551616 := by unfold dv; split <;> omega
theorem rm_range {a b : Int} (ha0 : 0 ≤ a) (ha : a < 18446744073709551616) : 0 ≤ rm a b ∧ rm a b < 18446744073709551616 := by unfold rm; split <;> omega
/-- The lowest half with its sign. -/
def ext (x : Int) : Int := if 2147483648 ≤ x % 4294967296 then x % 4294967296 + 18446744069414584320 else x % 4294967296
theorem half_eq (x : Int) : arith_half.f x = some (ext x) := by
  unfold arith_half.f bits_Sext.f
  rw [if_neg (by decide), if_neg (by decide), show wrap64 (64 - 32) = 32 from by unfold wrap64; omega, if_pos (by decide)]
  simp only [Option.bind_some]
  unfold shl shr ext
  rw [show (2 : Int) ^ min ((32 : Int)).toNat IntKind.u64.bits = 4294967296 from rfl, show (2 : Int) ^ min ((32 : Int)).toNat IntKind.i64.bits = 4294967296 from rfl, IntKind.wrap_u64, IntKind.wrap_u64]
  unfold wrap64
  congr 1
  split <;> omega
theorem ext_range (x : Int) : 0 ≤ ext x ∧ ext x < 18446744073709551616 := by unfold ext; split <;> omega
theorem ext_mod (x : Int) : ext x % 4294967296 = x % 4294967296 := by unfold ext; split <;> omega
theorem ext_congr {x y : Int} (h : x % 4294967296 = y % 4294967296) : ext x = ext y := by unfold ext; rw [h]
theorem ext_ext (x : Int) : ext (ext x) = ext x := ext_congr (ext_mod x)
theorem mulw_eq (a b : Int) : arith_Mulw.f a b = some (ext (a * b)) := by
  unfold arith_Mulw.f; rw [half_eq]; simp only [Option.bind_some]; rw [IntKind.wrap_u64]; congr 1; exact ext_congr (by omega)
theorem divw_eq (a b : Int) : arith_Divw.f a b = some (ext (dv (ext a) (ext b))) := by
  unfold arith_Divw.f
  rw [half_eq, half_eq]; simp only [Option.bind_some]
  rw [div_eq (ext_range a).1 (ext_range a).2 (ext_range b).1 (ext_range b).2]; simp only [Option.bind_some]
  rw [half_eq]; simp only [Option.bind_some]
theorem remw_eq (a b : Int) : arith_Remw.f a b = some (ext (rm (ext a) (ext b))) := by
  unfold arith_Remw.f
  rw [half_eq, half_eq]; simp only [Option.bind_some]
  rw [rem_eq (ext_range a).1 (ext_range a).2 (ext_range b).1 (ext_range b).2]; simp only [Option.bind_some]
  rw [half_eq]; simp only [Option.bind_some]
theorem divuw_eq (a b : Int) : arith_Divuw.f a b = some (ext (dvu (a % 4294967296) (b % 4294967296))) := by
  unfold arith_Divuw.f
  rw [divu_eq (by omega) (by omega) (by omega)]; simp only [Option.bind_some]
  rw [half_eq]; simp only [Option.bind_some]
theorem remuw_eq (a b : Int) : arith_Remuw.f a b = some (ext (rmu (a % 4294967296) (b % 4294967296))) := by
  unfold arith_Remuw.f
  rw [remu_eq (by omega)]; simp only [Option.bind_some]
  rw [half_eq]; simp only [Option.bind_some]
end Go.Proofs.Ytdfldddcaeokpaa.QF
