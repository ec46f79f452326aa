/- What the printed functions of package alu, and of its reference, tell, as whole numbers. -/
import Derived.Test.YtbfdehkejohjhaaQx5
import Derived.Test.YtbfdehkejohjhaaQx4
import Derived.Test.YtbfdehkejohjhaaQx3
import Derived.Test.YtbfdehkejohjhaaQx2
import Derived.Test.YtbfdehkejohjhaaQx11
import Derived.Test.YtbfdehkejohjhaaQArith
set_option linter.unusedSimpArgs false
set_option linter.unusedVariables false
namespace Go.Proofs.Ytbfdehkejohjhaa.QA
open Go.RowKit Go.Proofs.Ytbfdehkejohjhaa.Q Go.Proofs.YtbfdehkejohjhaaW.PrintWords Go.Proofs.YtbfdehkejohjhaaW.PrintLast Go.Proofs.YtbfdehkejohjhaaW.PrintMore Go.Proofs.Ytbfdehkejohjhaa.Bv Go.Proofs.Ytbfdehkejohjhaa.QF

theorem bsm {α β : Type} (a : α) (f : α → Option β) : (some a).bind f = f a := by cases h : (some a).bind f <;> simp_all
theorem alu_wakes (k : Nat) : mezzaninelaw21_wakes.f (k + 6) = some true := by kernel_rfl
theorem low32 (x : Int) : alu_low.f x = some (ext x) := by
  unfold alu_low.f ext wrap64 wrap32; rw [IntKind.wrap_u64]; congr 1; split <;> omega
/-- A word of two. -/
def o1 (c : Bool) : Int := if c = true then 1 else 0
theorem one_eq (c : Bool) : alu_one.f c = some (o1 c) := by unfold alu_one.f o1; cases c <;> rfl
theorem and63 {b : Int} (h0 : 0 ≤ b) (h1 : b < 18446744073709551616) : Go.bits .and .u64 b 63 = b % 64 := by
  obtain ⟨n, rfl⟩ := Int.eq_ofNat_of_zero_le h0
  rw [show (63 : Int) = ((2 ^ 6 - 1 : Nat) : Int) from rfl, u64_and_nat _ _ (by omega) (by decide), Nat.and_two_pow_sub_one_eq_mod]; omega
theorem and31 {b : Int} (h0 : 0 ≤ b) (h1 : b < 18446744073709551616) : Go.bits .and .u64 b 31 = b % 32 := by
  obtain ⟨n, rfl⟩ := Int.eq_ofNat_of_zero_le h0
  rw [show (31 : Int) = ((2 ^ 5 - 1 : Nat) : Int) from rfl, u64_and_nat _ _ (by omega) (by decide), Nat.and_two_pow_sub_one_eq_mod]; omega
theorem shl_eq (a n : Int) (h0 : 0 ≤ n) (h1 : n < 64) : shl .u64 a n = a * 2 ^ n.toNat % 18446744073709551616 := by
  unfold shl; rw [show IntKind.u64.bits = 64 from rfl, Nat.min_eq_left (by omega), IntKind.wrap_u64]
theorem shr_eq (a n : Int) (h0 : 0 ≤ n) (h1 : n < 64) : shr .u64 a n = a / 2 ^ n.toNat := by
  unfold shr; rw [show IntKind.u64.bits = 64 from rfl, Nat.min_eq_left (by omega)]
theorem sra_eq (a n : Int) (h0 : 0 ≤ n) (h1 : n < 64) : shr .i64 a n = a / 2 ^ n.toNat := by
  unfold shr; rw [show IntKind.i64.bits = 64 from rfl, Nat.min_eq_left (by omega)]
theorem shl32_eq (a n : Int) (h0 : 0 ≤ n) (h1 : n < 32) : shl .u32 a n = a * 2 ^ n.toNat % 4294967296 := by
  unfold shl; rw [show IntKind.u32.bits = 32 from rfl, Nat.min_eq_left (by omega), IntKind.wrap_u32]
theorem shr32_eq (a n : Int) (h0 : 0 ≤ n) (h1 : n < 32) : shr .u32 a n = a / 2 ^ n.toNat := by
  unfold shr; rw [show IntKind.u32.bits = 32 from rfl, Nat.min_eq_left (by omega)]
theorem sra32_eq (a n : Int) (h0 : 0 ≤ n) (h1 : n < 32) : shr .i32 a n = a / 2 ^ n.toNat := by
  unfold shr; rw [show IntKind.i32.bits = 32 from rfl, Nat.min_eq_left (by omega)]
/-- A word of 64 bits of an operation. -/
def Lg (op a b : Int) : Int × Bool :=
  if op = 22 ∨ op = 35 then ((a + b) % 18446744073709551616, true)
  else if op = 36 then ((a - b) % 18446744073709551616, true)
  else if op = 23 ∨ op = 38 then (o1 (decide (sg a < sg b)), true)
  else if op = 24 ∨ op = 39 then (o1 (decide (a < b)), true)
  else if op = 25 ∨ op = 40 then (Go.bits .xor .u64 a b, true)
  else if op = 26 ∨ op = 43 then (Go.bits .or .u64 a b, true)
  else if op = 27 ∨ op = 44 then (Go.bits .and .u64 a b, true)
  else if op = 28 ∨ op = 37 then (a * 2 ^ (b % 64).toNat % 18446744073709551616, true)
  else if op = 29 ∨ op = 41 then (a / 2 ^ (b % 64).toNat, true)
  else if op = 30 ∨ op = 42 then (sg a / 2 ^ (b % 64).toNat % 18446744073709551616, true)
  else (0, false)
theorem long_eq (op : Int) {a b : Int} (ha0 : 0 ≤ a) (ha : a < 18446744073709551616) (hb0 : 0 ≤ b) (hb : b < 18446744073709551616) : alu_long.f op a b = some (Lg op a b) := by
  unfold alu_long.f Lg
  rw [one_eq, one_eq, bsm, bsm, and63 hb0 hb, shl_eq _ _ (by omega) (by omega), shr_eq _ _ (by omega) (by omega), sra_eq _ _ (by omega) (by omega), sg_wrap ha0 ha, sg_wrap hb0 hb, IntKind.wrap_u64, IntKind.wrap_u64, IntKind.wrap_u64]
  simp only [apply_ite some]
/-- Of 32 bits. -/
def Sh (op a b : Int) : Int × Bool :=
  if op = 46 then (ext (a - b), true)
  else if op = 31 ∨ op = 45 then (ext (a + b), true)
  else if op = 32 ∨ op = 47 then (ext (a % 4294967296 * 2 ^ (b % 32).toNat), true)
  else if op = 33 ∨ op = 48 then (ext (a % 4294967296 / 2 ^ (b % 32).toNat), true)
  else if op = 34 ∨ op = 49 then (ext (wrap32 a / 2 ^ (b % 32).toNat), true)
  else (0, false)
theorem wrap32_mod (a : Int) : wrap32 (a % 4294967296) = wrap32 a := by unfold wrap32; omega
theorem sj2 (k : Nat) (op : Int) (v n : Int) (hn0 : 0 ≤ n) (hn : n < 32) (c : Bool) (hc : c = decide (op = 33 ∨ op = 48)) :
    alu_short.j2 (k + 1) true (v % 4294967296) n op c = some (if op = 33 ∨ op = 48 then (ext (v % 4294967296 / 2 ^ n.toNat), true) else if op = 34 ∨ op = 49 then (ext (wrap32 v / 2 ^ n.toNat), true) else (0, false)) := by
  rw [alu_short.j2, if_pos hn0, if_pos hn0, low32, low32, bsm, bsm, shr32_eq _ _ hn0 hn, sra32_eq _ _ hn0 hn, wrap32_mod, IntKind.wrap_u64, IntKind.wrap_u64, hc]
  have e1 : ext (v % 4294967296 / 2 ^ n.toNat % 18446744073709551616) = ext (v % 4294967296 / 2 ^ n.toNat) := ext_congr (by omega)
  have e2 : ext (wrap32 v / 2 ^ n.toNat % 18446744073709551616) = ext (wrap32 v / 2 ^ n.toNat) := ext_congr (by omega)
  rw [e1, e2]
  by_cases h : op = 33 ∨ op = 48
  · rw [decide_eq_true h, if_pos rfl, if_pos h]
  · rw [decide_eq_false h, if_neg (by decide), if_neg h]
    by_cases h3 : op = 34
    · rw [if_pos h3, if_pos (Or.inl h3)]
    · rw [if_neg h3]
      by_cases h4 : op = 49
      · rw [if_pos h4, if_pos (Or.inr h4)]
      · rw [if_neg h4, if_neg (by omega)]
theorem sj1 (k : Nat) (op : Int) (v n : Int) (hn0 : 0 ≤ n) (hn : n < 32) (c : Bool) (hc : c = decide (op = 32 ∨ op = 47)) :
    alu_short.j1 (k + 2) true (v % 4294967296) n op c = some (if op = 32 ∨ op = 47 then (ext (v % 4294967296 * 2 ^ n.toNat), true) else if op = 33 ∨ op = 48 then (ext (v % 4294967296 / 2 ^ n.toNat), true) else if op = 34 ∨ op = 49 then (ext (wrap32 v / 2 ^ n.toNat), true) else (0, false)) := by
  rw [alu_short.j1, if_pos hn0, low32, bsm, shl32_eq _ _ hn0 hn, IntKind.wrap_u64, hc]
  have e1 : ext (v % 4294967296 * 2 ^ n.toNat % 4294967296 % 18446744073709551616) = ext (v % 4294967296 * 2 ^ n.toNat) := ext_congr (by omega)
  rw [e1]
  by_cases h : op = 32 ∨ op = 47
  · rw [decide_eq_true h, if_pos rfl, if_pos h]
  · rw [decide_eq_false h, if_neg (by decide), if_neg h]
    by_cases h3 : op = 33
    · rw [if_pos h3, sj2 k op v n hn0 hn _ (by rw [h3]; rfl)]
    · rw [if_neg h3, sj2 k op v n hn0 hn _ (by rw [Bool.eq_iff_iff]; simp [h3])]
theorem sj0 (k : Nat) (op : Int) (a b n : Int) (hn0 : 0 ≤ n) (hn : n < 32) (c : Bool) (hc : c = decide (op = 31 ∨ op = 45)) :
    alu_short.j0 (k + 3) a b true (a % 4294967296) n op c = some (if op = 31 ∨ op = 45 then (ext (a + b), true) else if op = 32 ∨ op = 47 then (ext (a % 4294967296 * 2 ^ n.toNat), true) else if op = 33 ∨ op = 48 then (ext (a % 4294967296 / 2 ^ n.toNat), true) else if op = 34 ∨ op = 49 then (ext (wrap32 a / 2 ^ n.toNat), true) else (0, false)) := by
  rw [alu_short.j0, low32, bsm, IntKind.wrap_u64, hc]
  have e1 : ext ((a + b) % 18446744073709551616) = ext (a + b) := ext_congr (by omega)
  rw [e1]
  by_cases h : op = 31 ∨ op = 45
  · rw [decide_eq_true h, if_pos rfl, if_pos h]
  · rw [decide_eq_false h, if_neg (by decide), if_neg h]
    by_cases h3 : op = 32
    · rw [if_pos h3, sj1 k op a n hn0 hn _ (by rw [h3]; rfl)]
    · rw [if_neg h3, sj1 k op a n hn0 hn _ (by rw [Bool.eq_iff_iff]; simp [h3])]
theorem short_eq (k : Nat) (op : Int) {a b : Int} (hb0 : 0 ≤ b) (hb : b < 18446744073709551616) : alu_short.f (k + 3) op a b = some (Sh op a b) := by
  unfold alu_short.f Sh
  rw [low32, bsm, and31 hb0 hb, IntKind.wrap_u64, IntKind.wrap_u64]
  have e1 : ext ((a + -b % 18446744073709551616) % 18446744073709551616) = ext (a - b) := ext_congr (by omega)
  rw [e1]
  by_cases h : op = 46
  · rw [if_pos h, if_pos h]
  · rw [if_neg h, if_neg h]
    by_cases h3 : op = 31
    · rw [if_pos h3, sj0 k op a b _ (by omega) (by omega) _ (by rw [h3]; rfl)]
    · rw [if_neg h3, sj0 k op a b _ (by omega) (by omega) _ (by rw [Bool.eq_iff_iff]; simp [h3])]
/-- Products and quotients. -/
def Tm (op a b : Int) : Int :=
  if op = 50 then a * b % 18446744073709551616 else if op = 51 then hi (sg a * sg b) else if op = 52 then hi (sg a * b) else if op = 53 then hi (a * b)
  else if op = 54 then dv a b else if op = 55 then dvu a b else if op = 56 then rm a b else if op = 57 then rmu a b
  else if op = 58 then ext (a * b) else if op = 59 then ext (dv (ext a) (ext b)) else if op = 60 then ext (dvu (a % 4294967296) (b % 4294967296))
  else if op = 61 then ext (rm (ext a) (ext b)) else ext (rmu (a % 4294967296) (b % 4294967296))
theorem do_whole (op : Int) (h0 : 0 ≤ op) (h7 : op ≤ 7) {a b : Int} (a0 : 0 ≤ a) (a1 : a < 18446744073709551616) (b0 : 0 ≤ b) (b1 : b < 18446744073709551616) : arith_Do.f op false a b = some (Tm (op + 50) a b, 0) := by
  unfold arith_Do.f arith_Do.whole arith_table_1.f
  rw [div_eq a0 a1 b0 b1, rem_eq a0 a1 b0 b1, divu_eq a0 a1 b0, remu_eq a0, mulh_eq a0 a1 b0 b1, mulhsu_eq a0 a1 b0 b1, mulhu_eq a0 a1 b0 b1, IntKind.wrap_u64]
  have h8 : op = 0 ∨ op = 1 ∨ op = 2 ∨ op = 3 ∨ op = 4 ∨ op = 5 ∨ op = 6 ∨ op = 7 := by omega
  rcases h8 with rfl | rfl | rfl | rfl | rfl | rfl | rfl | rfl <;> rfl
theorem do_half (op : Int) (h0 : 4 ≤ op) (h7 : op ≤ 7) {a b : Int} (a0 : 0 ≤ a) (a1 : a < 18446744073709551616) (b0 : 0 ≤ b) (b1 : b < 18446744073709551616) : arith_Do.f op true a b = some (Tm (op + 55) a b, 0) := by
  unfold arith_Do.f arith_Do.half
  rw [mulw_eq, divw_eq, remw_eq, divuw_eq, remuw_eq]
  have h8 : op = 4 ∨ op = 5 ∨ op = 6 ∨ op = 7 := by omega
  rcases h8 with rfl | rfl | rfl | rfl <;> rfl
theorem times_eq (op : Int) (h0 : 50 ≤ op) (h1 : op ≤ 62) {a b : Int} (a0 : 0 ≤ a) (a1 : a < 18446744073709551616) (b0 : 0 ≤ b) (b1 : b < 18446744073709551616) : alu_times.f op a b = some (Tm op a b) := by
  unfold alu_times.f
  by_cases h : op ≤ 57
  · rw [if_pos h, show wrap64 (op - 50) = op - 50 by unfold wrap64; omega, do_whole (op - 50) (by omega) (by omega) a0 a1 b0 b1, bsm, show op - 50 + 50 = op by omega]
  · rw [if_neg h]
    by_cases h8 : op = 58
    · rw [if_pos h8, mulw_eq, bsm, h8]; rfl
    · rw [if_neg h8, show wrap64 (wrap64 (op - 59) + 4) = op - 55 by unfold wrap64; omega, do_half (op - 55) (by omega) (by omega) a0 a1 b0 b1, bsm, show op - 55 + 55 = op by omega]
/-- What an instruction puts into its target. -/
def V (op imm a b pc : Int) : Int × Bool :=
  if op = 1 then (imm % 18446744073709551616, true)
  else if op = 2 then ((pc + imm) % 18446744073709551616, true)
  else if op = 3 ∨ op = 4 then ((pc + 4) % 18446744073709551616, true)
  else if 50 ≤ op ∧ op ≤ 62 then (Tm op a b, true)
  else if (Lg op a (if 22 ≤ op ∧ op ≤ 34 then imm % 18446744073709551616 else b)).2 = true then Lg op a (if 22 ≤ op ∧ op ≤ 34 then imm % 18446744073709551616 else b)
  else Sh op a (if 22 ≤ op ∧ op ≤ 34 then imm % 18446744073709551616 else b)
theorem vj2 (k : Nat) (op : Int) {a b : Int} (a0 : 0 ≤ a) (a1 : a < 18446744073709551616) (b0 : 0 ≤ b) (b1 : b < 18446744073709551616) (r p q imm c : Int) (x y : Bool) :
    alu_Value.j2 (k + 4) a b op r p q imm c x y = some (if (Lg op a b).2 = true then Lg op a b else Sh op a b) := by
  rw [alu_Value.j2, long_eq op a0 a1 b0 b1, bsm, short_eq k op b0 b1, bsm]
  by_cases h : (Lg op a b).2 = true
  · rw [if_pos h, if_pos h, ← h]
  · rw [if_neg h, if_neg h]
theorem vj1 (k : Nat) (op : Int) {a b i : Int} (a0 : 0 ≤ a) (a1 : a < 18446744073709551616) (b0 : 0 ≤ b) (b1 : b < 18446744073709551616) (i0 : 0 ≤ i) (i1 : i < 18446744073709551616) (t : Bool) (ht : t = decide (22 ≤ op ∧ op ≤ 34)) (r p q imm c : Int) (x y : Bool) :
    alu_Value.j1 (k + 5) a b i t op r p q imm c x y = some (if (Lg op a (if 22 ≤ op ∧ op ≤ 34 then i else b)).2 = true then Lg op a (if 22 ≤ op ∧ op ≤ 34 then i else b) else Sh op a (if 22 ≤ op ∧ op ≤ 34 then i else b)) := by
  rw [alu_Value.j1, vj2 k op a0 a1 i0 i1, vj2 k op a0 a1 b0 b1, ht]
  by_cases h : 22 ≤ op ∧ op ≤ 34
  · rw [decide_eq_true h, if_pos rfl, if_pos h]
  · rw [decide_eq_false h, if_neg (by decide), if_neg h]
theorem alu_eq (k : Nat) (op r p q imm c : Int) (x y : Bool) {a b : Int} (a0 : 0 ≤ a) (a1 : a < 18446744073709551616) (b0 : 0 ≤ b) (b1 : b < 18446744073709551616) (pc : Int) :
    alu_Value.f (k + 6) op r p q imm c x y a b pc = some (V op imm a b pc) := by
  unfold alu_Value.f V
  rw [IntKind.wrap_u64, IntKind.wrap_u64, IntKind.wrap_u64, show (pc + imm % 18446744073709551616) % 18446744073709551616 = (pc + imm) % 18446744073709551616 by omega]
  by_cases h1 : op = 1
  · rw [if_pos h1, if_pos h1]
  rw [if_neg h1, if_neg h1]
  by_cases h2 : op = 2
  · rw [if_pos h2, if_pos h2]
  rw [if_neg h2, if_neg h2]
  by_cases h3 : op = 3
  · rw [if_pos h3, if_pos (Or.inl h3)]
  rw [if_neg h3]
  by_cases h4 : op = 4
  · rw [if_pos h4, if_pos (Or.inr h4)]
  rw [if_neg h4, if_neg (show ¬(op = 3 ∨ op = 4) by omega)]
  have i0 : 0 ≤ imm % 18446744073709551616 := by omega
  have i1 : imm % 18446744073709551616 < 18446744073709551616 := by omega
  rw [alu_Value.j0, alu_Value.j0]
  by_cases h5 : 50 ≤ op ∧ op ≤ 62
  · rw [if_pos (show op ≥ 50 from h5.1), decide_eq_true h5.2, if_pos rfl, if_pos h5, times_eq op h5.1 h5.2 a0 a1 b0 b1, bsm]
  · rw [if_neg h5]
    have key : (if op ≥ 22 then alu_Value.j1 (k + 5) a b (imm % 18446744073709551616) (decide (op ≤ 34)) op r p q imm c x y else alu_Value.j1 (k + 5) a b (imm % 18446744073709551616) false op r p q imm c x y) = some (if (Lg op a (if 22 ≤ op ∧ op ≤ 34 then imm % 18446744073709551616 else b)).2 = true then Lg op a (if 22 ≤ op ∧ op ≤ 34 then imm % 18446744073709551616 else b) else Sh op a (if 22 ≤ op ∧ op ≤ 34 then imm % 18446744073709551616 else b)) := by
      by_cases h6 : op ≥ 22
      · rw [if_pos h6, vj1 k op a0 a1 b0 b1 i0 i1 _ (by rw [Bool.eq_iff_iff, decide_eq_true_iff, decide_eq_true_iff]; omega)]
      · rw [if_neg h6, vj1 k op a0 a1 b0 b1 i0 i1 _ (by rw [decide_eq_false (by omega)])]
    rw [key]
    by_cases h7 : op ≥ 50
    · rw [if_pos h7, decide_eq_false (by omega), if_neg (by decide)]
    · rw [if_neg h7, if_neg (by decide)]
end Go.Proofs.Ytbfdehkejohjhaa.QA
