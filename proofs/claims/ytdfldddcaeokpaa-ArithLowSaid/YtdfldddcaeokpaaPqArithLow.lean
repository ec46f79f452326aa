/- What is told of halves hangs on the halves alone, and has its sign drawn out from bit 31; what Do tells is what the functions tell. -/
import Derived.Test.YtdfldddcaeokpaaQx11
import Derived.Test.YtdfldddcaeokpaaQAwake
set_option linter.unusedSimpArgs false
set_option linter.unusedVariables false
namespace Go.Proofs.Ytdfldddcaeokpaa.Pure
open Go.RowKit Go.Proofs.Ytdfldddcaeokpaa.Q Go.Proofs.YtdfldddcaeokpaaW.PrintWords Go.Proofs.YtdfldddcaeokpaaW.PrintLast Go.Proofs.YtdfldddcaeokpaaW.PrintMore Go.Proofs.Ytdfldddcaeokpaa.Bv Go.Proofs.Ytdfldddcaeokpaa.QF
theorem ext_form (x : Int) : IntKind.u64.wrap (wrap64 (wrap32 (ext x))) = ext x := by
  have h : IntKind.u64.wrap (wrap64 (wrap32 (ext x))) = ext (ext x) := by
    generalize ext x = y
    unfold ext wrap64 wrap32; rw [IntKind.wrap_u64]; split <;> omega
  rw [h, ext_ext]
theorem zero_form : IntKind.u64.wrap (wrap64 (wrap32 0)) = 0 := by
  have h := ext_form 0; rw [show ext 0 = 0 from by decide] at h; exact h
theorem X_facts {a c : Int} (a0 : 0 ≤ a) (a1 : a < 18446744073709551616) : 0 ≤ mezzaninelaw02_ArithLow.X a c ∧ mezzaninelaw02_ArithLow.X a c < 18446744073709551616 ∧ mezzaninelaw02_ArithLow.X a c % 4294967296 = a % 4294967296 := by
  unfold mezzaninelaw02_ArithLow.X; rw [IntKind.wrap_u64, IntKind.wrap_u64, IntKind.wrap_u64]; omega
theorem mul_one {x y u v : Int} (h : x % 4294967296 = y % 4294967296) (g : u % 4294967296 = v % 4294967296) : ext (x * u) = ext (y * v) := ext_congr (by rw [Int.mul_emod, h, g, ← Int.mul_emod])
theorem half_do (a b : Int) : arith_Do.f 0 true a b = some (ext (a * b), 0) ∧ arith_Do.f 1 true a b = some (0, 1) ∧ arith_Do.f 2 true a b = some (0, 1) ∧ arith_Do.f 3 true a b = some (0, 1) ∧
    arith_Do.f 4 true a b = some (ext (dv (ext a) (ext b)), 0) ∧ arith_Do.f 5 true a b = some (ext (dvu (a % 4294967296) (b % 4294967296)), 0) ∧ arith_Do.f 6 true a b = some (ext (rm (ext a) (ext b)), 0) ∧ arith_Do.f 7 true a b = some (ext (rmu (a % 4294967296) (b % 4294967296)), 0) := by
  unfold arith_Do.f arith_Do.half
  rw [mulw_eq, divw_eq, remw_eq, divuw_eq, remuw_eq]
  exact ⟨rfl, rfl, rfl, rfl, rfl, rfl, rfl, rfl⟩
theorem whole_do {a b : Int} (a0 : 0 ≤ a) (a1 : a < 18446744073709551616) (b0 : 0 ≤ b) (b1 : b < 18446744073709551616) : arith_Do.f 0 false a b = some (IntKind.u64.wrap (a * b), 0) ∧ arith_Do.f 1 false a b = some (hi (sg a * sg b), 0) ∧ arith_Do.f 2 false a b = some (hi (sg a * b), 0) ∧ arith_Do.f 3 false a b = some (hi (a * b), 0) ∧
    arith_Do.f 4 false a b = some (dv a b, 0) ∧ arith_Do.f 5 false a b = some (dvu a b, 0) ∧ arith_Do.f 6 false a b = some (rm a b, 0) ∧ arith_Do.f 7 false a b = some (rmu a b, 0) := by
  unfold arith_Do.f arith_Do.whole arith_table_1.f
  rw [div_eq a0 a1 b0 b1, rem_eq a0 a1 b0 b1, divu_eq a0 a1 b0, remu_eq a0, mulh_eq a0 a1 b0 b1, mulhsu_eq a0 a1 b0 b1, mulhu_eq a0 a1 b0 b1]
  exact ⟨rfl, rfl, rfl, rfl, rfl, rfl, rfl, rfl⟩
theorem ArithLow : mezzaninelaw02_ArithLow.Pure := by
  intro a b c d ha hb hc hd
  obtain ⟨a0, a1⟩ := u64_in ha; obtain ⟨b0, b1⟩ := u64_in hb
  obtain ⟨x0, x1, gx⟩ := X_facts (c := c) a0 a1
  obtain ⟨y0, y1, gy⟩ := X_facts (c := d) b0 b1
  generalize mezzaninelaw02_ArithLow.X a c = x at x0 x1 gx ⊢
  generalize mezzaninelaw02_ArithLow.X b d = y at y0 y1 gy ⊢
  refine ⟨arith_awake, _, _, _, _, _, _, _, _, _, _, _, _, mulw_eq a b, divw_eq a b, divuw_eq a b, remw_eq a b, remuw_eq a b, mulh_eq a0 a1 b0 b1, mulhsu_eq a0 a1 b0 b1, mulhu_eq a0 a1 b0 b1, div_eq a0 a1 b0 b1, divu_eq a0 a1 b0, rem_eq a0 a1 b0 b1, remu_eq a0, ?_⟩
  obtain ⟨p0, p1, p2, p3, p4, p5, p6, p7⟩ := half_do a b
  obtain ⟨r0, r1, r2, r3, r4, r5, r6, r7⟩ := half_do x y
  obtain ⟨q0, q1, q2, q3, q4, q5, q6, q7⟩ := whole_do a0 a1 b0 b1
  have ex : ext x = ext a := ext_congr gx
  have ey : ext y = ext b := ext_congr gy
  rw [mul_one gx gy] at r0
  rw [ex, ey] at r4 r6
  rw [gx, gy] at r5 r7
  intro i hi
  have hc : i = 0 ∨ i = 1 ∨ i = 2 ∨ i = 3 ∨ i = 4 ∨ i = 5 ∨ i = 6 ∨ i = 7 := by omega
  rcases hc with rfl | rfl | rfl | rfl | rfl | rfl | rfl | rfl
  · exact ⟨_, _, p0, r0, q0, rfl, rfl, ext_form _⟩
  · exact ⟨_, _, p1, r1, q1, rfl, rfl, zero_form⟩
  · exact ⟨_, _, p2, r2, q2, rfl, rfl, zero_form⟩
  · exact ⟨_, _, p3, r3, q3, rfl, rfl, zero_form⟩
  · exact ⟨_, _, p4, r4, q4, rfl, rfl, ext_form _⟩
  · exact ⟨_, _, p5, r5, q5, rfl, rfl, ext_form _⟩
  · exact ⟨_, _, p6, r6, q6, rfl, rfl, ext_form _⟩
  · exact ⟨_, _, p7, r7, q7, rfl, rfl, ext_form _⟩
end Go.Proofs.Ytdfldddcaeokpaa.Pure
