/- A word is its fields put together. -/
import Derived.Test.YtkolnfhaoklmaaaQx8
import Derived.Test.YtkolnfhaoklmaaaQForms
set_option linter.unusedSimpArgs false
set_option linter.unusedVariables false
namespace Go.Proofs.Ytkolnfhaoklmaaa.Pure
open Go.RowKit Go.Proofs.Ytkolnfhaoklmaaa.Q Go.Proofs.YtkolnfhaoklmaaaW.PrintWords Go.Proofs.YtkolnfhaoklmaaaW.PrintLast Go.Proofs.YtkolnfhaoklmaaaW.PrintMore Go.Proofs.Ytkolnfhaoklmaaa.Bv Go.Proofs.Ytkolnfhaoklmaaa.QF
theorem bsm {α β : Type} (a : α) (f : α → Option β) : (some a).bind f = f a := by cases h : (some a).bind f <;> simp_all
theorem o_ : ∀ (x y i m n : Nat), m = 2 ^ i * n → y < 2 ^ i → x * m ||| y = x * m + y := by
  intro x y i m n h1 h2; rw [h1, show x * (2 ^ i * n) = 2 ^ i * (x * n) by simp only [Nat.mul_assoc, Nat.mul_comm, Nat.mul_left_comm]]; exact or_add _ _ _ h2
theorem s2_ (w : Nat) (hw : w < 4294967296) : w / 33554432 % 128 * 33554432 ||| w / 1048576 % 32 * 1048576 = (w / 1048576 % 4096) * 1048576 := by
  rw [o_ _ _ 25 33554432 1 (by decide) (by omega)]; omega
theorem s3_ (w : Nat) (hw : w < 4294967296) : (w / 1048576 % 4096) * 1048576 ||| w / 32768 % 32 * 32768 = (w / 32768 % 131072) * 32768 := by
  rw [o_ _ _ 20 1048576 1 (by decide) (by omega)]; omega
theorem s4_ (w : Nat) (hw : w < 4294967296) : (w / 32768 % 131072) * 32768 ||| w / 4096 % 8 * 4096 = (w / 4096 % 1048576) * 4096 := by
  rw [o_ _ _ 15 32768 1 (by decide) (by omega)]; omega
theorem s5_ (w : Nat) (hw : w < 4294967296) : (w / 4096 % 1048576) * 4096 ||| w / 128 % 32 * 128 = (w / 128 % 33554432) * 128 := by
  rw [o_ _ _ 12 4096 1 (by decide) (by omega)]; omega
theorem s6_ (w : Nat) (hw : w < 4294967296) : (w / 128 % 33554432) * 128 ||| w % 128 = w := by
  rw [o_ _ _ 7 128 1 (by decide) (by omega)]; omega
theorem c_ (x m : Nat) (M : Int) (hM : M = (m : Int)) (h : x * m < 4294967296) : (((x : Nat) : Int) * M) % 4294967296 = ((x * m : Nat) : Int) := by
  rw [hM, ← Int.natCast_mul]; omega
theorem fw_eq (w h l a b : Nat) (ha : 2 ^ l = a) (hb : 2 ^ (h - l + 1) = b) (hl : l ≤ h) : fw w ⟨(h : Int), (l : Int)⟩ = w / a % b := by
  unfold fw lp kp; rw [← ha, ← hb, Int.toNat_natCast, show (((h : Int) - (l : Int) + 1).toNat) = h - l + 1 by omega]
theorem FieldsWhole : mezzaninelaw08_FieldsWhole.Pure := by
  intro a ha
  obtain ⟨a0, a1⟩ := u32_in ha
  obtain ⟨w, rfl⟩ := Int.eq_ofNat_of_zero_le a0
  refine ⟨60, ?_⟩
  unfold mezzaninelaw08_FieldsWhole.f
  have hw : w < 4294967296 := by omega
  have F : ∀ (h l a b : Nat), gp ⟨(h : Int), (l : Int)⟩ → 2 ^ l = a → 2 ^ (h - l + 1) = b → l ≤ h → fields_Field.f (w : Int) (h : Int) (l : Int) = some ((w / a % b : Nat) : Int) := by
    intro h l a b hg ha hb hl
    rw [← fw_eq w h l a b ha hb hl]; exact field_eq w hw hg
  have f1 := F 31 25 33554432 128 (by decide) (by decide) (by decide) (by decide)
  have f2 := F 24 20 1048576 32 (by decide) (by decide) (by decide) (by decide)
  have f3 := F 19 15 32768 32 (by decide) (by decide) (by decide) (by decide)
  have f4 := F 14 12 4096 8 (by decide) (by decide) (by decide) (by decide)
  have f5 := F 11 7 128 32 (by decide) (by decide) (by decide) (by decide)
  have f6 := F 6 0 1 128 (by decide) (by decide) (by decide) (by decide)
  have f7 := F 31 0 1 4294967296 (by decide) (by decide) (by decide) (by decide)
  simp only [Int.cast_ofNat_Int, Nat.div_one] at f1 f2 f3 f4 f5 f6 f7
  rw [f1, bsm, f2, bsm, f3, bsm, f4, bsm, f5, bsm, f6, bsm, f7]
  rw [c_ _ 33554432 33554432 rfl (by omega), c_ _ 1048576 1048576 rfl (by omega), c_ _ 32768 32768 rfl (by omega), c_ _ 4096 4096 rfl (by omega), c_ _ 128 128 rfl (by omega)]
  rw [u32_or_nat _ _ (by omega) (by omega), s2_ w hw, u32_or_nat _ _ (by omega) (by omega), s3_ w hw, u32_or_nat _ _ (by omega) (by omega), s4_ w hw, u32_or_nat _ _ (by omega) (by omega), s5_ w hw, u32_or_nat _ _ (by omega) (by omega), s6_ w hw]
  rw [if_pos rfl, bsm, if_pos (by omega), wakes_eq 40, bsm]
end Go.Proofs.Ytkolnfhaoklmaaa.Pure
