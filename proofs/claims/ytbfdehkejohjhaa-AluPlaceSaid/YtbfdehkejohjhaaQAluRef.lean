/- What the document's functions of layer 21 tell, as whole numbers. -/
import Derived.Test.YtbfdehkejohjhaaQx10
import Derived.Test.YtbfdehkejohjhaaQx6
import Derived.Test.YtbfdehkejohjhaaQRef
import Derived.Test.YtbfdehkejohjhaaQAlu
set_option linter.unusedSimpArgs false
set_option linter.unusedVariables false
namespace Go.Proofs.Ytbfdehkejohjhaa.QA
open Go.RowKit Go.Proofs.Ytbfdehkejohjhaa.Q Go.Proofs.YtbfdehkejohjhaaW.PrintWords Go.Proofs.YtbfdehkejohjhaaW.PrintLast Go.Proofs.YtbfdehkejohjhaaW.PrintMore Go.Proofs.Ytbfdehkejohjhaa.Bv Go.Proofs.Ytbfdehkejohjhaa.QF
theorem rlow32 {x : Int} (h : 0 ≤ x) : mezzanineref21_Low.f x = some (ext x) := by
  unfold mezzanineref21_Low.f ext
  rw [Int.tmod_eq_emod_of_nonneg h, IntKind.wrap_u64]
  by_cases h2 : x % 4294967296 ≥ 2147483648
  · rw [if_pos h2, if_pos h2]; congr 1; omega
  · rw [if_neg h2, if_neg h2]
theorem rone_eq (c : Bool) : mezzanineref21_one.f c = some (o1 c) := by unfold mezzanineref21_one.f o1; cases c <;> rfl
theorem less_eq {a b : Int} (a0 : 0 ≤ a) (a1 : a < 18446744073709551616) (b0 : 0 ≤ b) (b1 : b < 18446744073709551616) : mezzanineref21_Less.f a b = some (decide (sg a < sg b)) := by
  unfold mezzanineref21_Less.f sg
  by_cases h1 : 9223372036854775808 ≤ a <;> by_cases h2 : 9223372036854775808 ≤ b
  · rw [decide_eq_true h1, decide_eq_true h2, if_neg (by decide), if_pos h1, if_pos h2]; congr 1; rw [Bool.eq_iff_iff, decide_eq_true_iff, decide_eq_true_iff]; omega
  · rw [decide_eq_true h1, decide_eq_false h2, if_pos (by decide), if_pos h1, if_neg h2]; congr 1; rw [decide_eq_true (by omega)]
  · rw [decide_eq_false h1, decide_eq_true h2, if_pos (by decide), if_neg h1, if_pos h2]; congr 1; rw [decide_eq_false (by omega)]
  · rw [decide_eq_false h1, decide_eq_false h2, if_neg (by decide), if_neg h1, if_neg h2]
theorem pow_step {n i : Int} (h : i < n) : (2 : Int) ^ (n - i).toNat = 2 * 2 ^ (n - (i + 1)).toNat := by
  rw [show (n - i).toNat = (n - (i + 1)).toNat + 1 by omega, Int.pow_succ, Int.mul_comm]
theorem left_loop (m : Nat) : ∀ (x n i : Int), 0 ≤ x → x < 18446744073709551616 → 0 ≤ i → i ≤ n → n ≤ 64 → (n - i).toNat ≤ m → mezzanineref21_Left.l0 (m + 1) x n i = some (x * 2 ^ (n - i).toNat % 18446744073709551616) := by
  induction m with
  | zero =>
    intro x n i x0 x1 i0 hin hn hm
    rw [mezzanineref21_Left.l0, if_neg (by omega), show (n - i).toNat = 0 by omega, Int.pow_zero, Int.mul_one, Int.emod_eq_of_lt x0 x1]
  | succ m ih =>
    intro x n i x0 x1 i0 hin hn hm
    rw [mezzanineref21_Left.l0]
    by_cases h : i < n
    · rw [if_pos h, IntKind.wrap_u64, show wrap64 (i + 1) = i + 1 by unfold wrap64; omega, ih _ _ _ (by omega) (by omega) (by omega) (by omega) hn (by omega), pow_step h]
      congr 1
      rw [Int.mul_emod, Int.emod_emod, ← Int.mul_emod, Int.mul_comm 2 x, Int.mul_assoc]
    · rw [if_neg h, show (n - i).toNat = 0 by omega, Int.pow_zero, Int.mul_one, Int.emod_eq_of_lt x0 x1]
theorem right_loop (m : Nat) : ∀ (x n i : Int), 0 ≤ x → x < 18446744073709551616 → 0 ≤ i → i ≤ n → n ≤ 64 → (n - i).toNat ≤ m → mezzanineref21_Right.l0 (m + 1) x n i = some (x / 2 ^ (n - i).toNat) := by
  induction m with
  | zero =>
    intro x n i x0 x1 i0 hin hn hm
    rw [mezzanineref21_Right.l0, if_neg (by omega), show (n - i).toNat = 0 by omega, Int.pow_zero, Int.ediv_one]
  | succ m ih =>
    intro x n i x0 x1 i0 hin hn hm
    rw [mezzanineref21_Right.l0]
    by_cases h : i < n
    · rw [if_pos h, IntKind.wrap_u64, Int.tdiv_eq_ediv_of_nonneg x0, show x / 2 % 18446744073709551616 = x / 2 by omega, show wrap64 (i + 1) = i + 1 by unfold wrap64; omega, ih _ _ _ (by omega) (by omega) (by omega) (by omega) hn (by omega), pow_step h, Int.ediv_ediv_of_nonneg (by decide)]
    · rw [if_neg h, show (n - i).toNat = 0 by omega, Int.pow_zero, Int.ediv_one]
theorem signed_loop (m : Nat) : ∀ (s n i : Int), -9223372036854775808 ≤ s → s < 9223372036854775808 → 0 ≤ i → i ≤ n → n ≤ 64 → (n - i).toNat ≤ m → mezzanineref21_Signed.l0 (m + 1) (s % 18446744073709551616) n i = some (s / 2 ^ (n - i).toNat % 18446744073709551616) := by
  induction m with
  | zero =>
    intro x n i x0 x1 i0 hin hn hm
    rw [mezzanineref21_Signed.l0, if_neg (by omega), show (n - i).toNat = 0 by omega, Int.pow_zero, Int.ediv_one]
  | succ m ih =>
    intro x n i x0 x1 i0 hin hn hm
    rw [mezzanineref21_Signed.l0]
    by_cases h : i < n
    · have e1 : x % 18446744073709551616 ≥ 9223372036854775808 → IntKind.u64.wrap (IntKind.u64.wrap (Int.tdiv (x % 18446744073709551616) 2) + 9223372036854775808) = x / 2 % 18446744073709551616 := by
        intro h2; rw [Int.tdiv_eq_ediv_of_nonneg (by omega), IntKind.wrap_u64, IntKind.wrap_u64]; omega
      have e2 : ¬x % 18446744073709551616 ≥ 9223372036854775808 → IntKind.u64.wrap (Int.tdiv (x % 18446744073709551616) 2) = x / 2 % 18446744073709551616 := by
        intro h2; rw [Int.tdiv_eq_ediv_of_nonneg (by omega), IntKind.wrap_u64]; omega
      rw [if_pos h, show wrap64 (i + 1) = i + 1 by unfold wrap64; omega]
      have e3 := ih (x / 2) n (i + 1) (by omega) (by omega) (by omega) (by omega) hn (by omega)
      rw [pow_step h, ← Int.ediv_ediv_of_nonneg (by decide)]
      by_cases h2 : x % 18446744073709551616 ≥ 9223372036854775808
      · rw [if_pos h2, e1 h2, e3]
      · rw [if_neg h2, e2 h2, e3]
    · rw [if_neg h, show (n - i).toNat = 0 by omega, Int.pow_zero, Int.ediv_one]


theorem left_eq {K : Nat} (hK : 65 ≤ K) {a n : Int} (a0 : 0 ≤ a) (a1 : a < 18446744073709551616) (n0 : 0 ≤ n) (n1 : n ≤ 64) : mezzanineref21_Left.f K a n = some (a * 2 ^ n.toNat % 18446744073709551616) := by
  unfold mezzanineref21_Left.f
  obtain ⟨k, rfl⟩ : ∃ k, K = k + 64 + 1 := ⟨K - 65, by omega⟩
  rw [left_loop (k + 64) a n 0 a0 a1 (by omega) n0 n1 (by omega), Int.sub_zero]

theorem right_eq {K : Nat} (hK : 65 ≤ K) {a n : Int} (a0 : 0 ≤ a) (a1 : a < 18446744073709551616) (n0 : 0 ≤ n) (n1 : n ≤ 64) : mezzanineref21_Right.f K a n = some (a / 2 ^ n.toNat) := by
  unfold mezzanineref21_Right.f
  obtain ⟨k, rfl⟩ : ∃ k, K = k + 64 + 1 := ⟨K - 65, by omega⟩
  rw [right_loop (k + 64) a n 0 a0 a1 (by omega) n0 n1 (by omega), Int.sub_zero]

theorem signed_eq {K : Nat} (hK : 65 ≤ K) {a n : Int} (a0 : 0 ≤ a) (a1 : a < 18446744073709551616) (n0 : 0 ≤ n) (n1 : n ≤ 64) : mezzanineref21_Signed.f K a n = some (sg a / 2 ^ n.toNat % 18446744073709551616) := by
  unfold mezzanineref21_Signed.f
  obtain ⟨k, rfl⟩ : ∃ k, K = k + 64 + 1 := ⟨K - 65, by omega⟩
  have hs := sg_range a0 a1
  have h := signed_loop (k + 64) (sg a) n 0 hs.1 hs.2 (by omega) n0 n1 (by omega)
  rw [sg_mod, Int.emod_eq_of_lt a0 a1, Int.sub_zero] at h
  exact h
theorem sg_ext (a : Int) : sg (ext a) = wrap32 a := by unfold sg ext wrap32; split <;> split <;> omega
theorem w64 {b : Int} (h : 0 ≤ b) : wrap64 (Int.tmod b 64) = b % 64 := by rw [Int.tmod_eq_emod_of_nonneg h]; unfold wrap64; omega
theorem w32 {b : Int} (h : 0 ≤ b) : wrap64 (Int.tmod b 32) = b % 32 := by rw [Int.tmod_eq_emod_of_nonneg h]; unfold wrap64; omega
theorem emodM (x : Int) : ext (x % 18446744073709551616) = ext x := ext_congr (by omega)
theorem emod32 (x : Int) : ext (x % 4294967296) = ext x := ext_congr (by omega)

/-- The document's table. -/
def W (op i a b : Int) : Int × Bool :=
  if op = 22 then ((a + i) % 18446744073709551616, true)
  else if op = 23 then (o1 (decide (sg a < sg i)), true)
  else if op = 24 then (o1 (decide (a < i)), true)
  else if op = 25 then (Go.bits .xor .u64 a i, true)
  else if op = 26 then (Go.bits .or .u64 a i, true)
  else if op = 27 then (Go.bits .and .u64 a i, true)
  else if op = 28 then (a * 2 ^ (i % 64).toNat % 18446744073709551616, true)
  else if op = 29 then (a / 2 ^ (i % 64).toNat, true)
  else if op = 30 then (sg a / 2 ^ (i % 64).toNat % 18446744073709551616, true)
  else if op = 31 then (ext (a + i), true)
  else if op = 32 then (ext (a % 4294967296 * 2 ^ (i % 32).toNat), true)
  else if op = 33 then (ext (a % 4294967296 / 2 ^ (i % 32).toNat), true)
  else if op = 34 then (ext (wrap32 a / 2 ^ (i % 32).toNat), true)
  else if op = 35 then ((a + b) % 18446744073709551616, true)
  else if op = 36 then ((a - b) % 18446744073709551616, true)
  else if op = 37 then (a * 2 ^ (b % 64).toNat % 18446744073709551616, true)
  else if op = 38 then (o1 (decide (sg a < sg b)), true)
  else if op = 39 then (o1 (decide (a < b)), true)
  else if op = 40 then (Go.bits .xor .u64 a b, true)
  else if op = 41 then (a / 2 ^ (b % 64).toNat, true)
  else if op = 42 then (sg a / 2 ^ (b % 64).toNat % 18446744073709551616, true)
  else if op = 43 then (Go.bits .or .u64 a b, true)
  else if op = 44 then (Go.bits .and .u64 a b, true)
  else if op = 45 then (ext (a + b), true)
  else if op = 46 then (ext (a - b), true)
  else if op = 47 then (ext (a % 4294967296 * 2 ^ (b % 32).toNat), true)
  else if op = 48 then (ext (a % 4294967296 / 2 ^ (b % 32).toNat), true)
  else if op = 49 then (ext (wrap32 a / 2 ^ (b % 32).toNat), true)
  else if op = 50 then (a * b % 18446744073709551616, true)
  else if op = 51 then (hi (sg a * sg b), true)
  else if op = 52 then (hi (sg a * b), true)
  else if op = 53 then (hi (a * b), true)
  else if op = 54 then (dv a b, true)
  else if op = 55 then (dvu a b, true)
  else if op = 56 then (rm a b, true)
  else if op = 57 then (rmu a b, true)
  else if op = 58 then (ext (a * b), true)
  else if op = 59 then (ext (dv (ext a) (ext b)), true)
  else if op = 60 then (ext (dvu (a % 4294967296) (b % 4294967296)), true)
  else if op = 61 then (ext (rm (ext a) (ext b)), true)
  else if op = 62 then (ext (rmu (a % 4294967296) (b % 4294967296)), true)
  else (0, false)

set_option maxRecDepth 20000 in
theorem rj0 (k : Nat) (op : Int) {a b i pc : Int} (a0 : 0 ≤ a) (a1 : a < 18446744073709551616) (b0 : 0 ≤ b) (b1 : b < 18446744073709551616) (i0 : 0 ≤ i) (i1 : i < 18446744073709551616) (c : Bool) :
    mezzanineref21_Value.j0 (k + 70) a b pc i (a % 4294967296) op c = some (if c = true then ((pc + 4) % 18446744073709551616, true) else W op i a b) := by
  have x0 : 0 ≤ a % 4294967296 := by omega
  have x1 : a % 4294967296 < 18446744073709551616 := by omega
  have hK : 65 ≤ k + 69 := by omega
  have ei := ext_range (a % 4294967296)
  have q64 (n : Int) : 0 ≤ n % 64 ∧ n % 64 ≤ 64 := by omega
  have q32 (n : Int) : 0 ≤ n % 32 ∧ n % 32 ≤ 64 := by omega
  have div0 (n : Nat) : 0 ≤ a % 4294967296 / 2 ^ n := Int.ediv_nonneg x0 (Int.le_of_lt (Int.pow_pos (by decide)))
  have mod0 (z : Int) : 0 ≤ z % 18446744073709551616 := by omega
  rw [mezzanineref21_Value.j0]
  simp only [w64 i0, w64 b0, w32 i0, w32 b0]
  rw [less_eq a0 a1 i0 i1, less_eq a0 a1 b0 b1, left_eq hK a0 a1 (q64 i).1 (q64 i).2, right_eq hK a0 a1 (q64 i).1 (q64 i).2, signed_eq hK a0 a1 (q64 i).1 (q64 i).2,
    left_eq hK a0 a1 (q64 b).1 (q64 b).2, right_eq hK a0 a1 (q64 b).1 (q64 b).2, signed_eq hK a0 a1 (q64 b).1 (q64 b).2,
    left_eq hK x0 x1 (q32 i).1 (q32 i).2, right_eq hK x0 x1 (q32 i).1 (q32 i).2, left_eq hK x0 x1 (q32 b).1 (q32 b).2, right_eq hK x0 x1 (q32 b).1 (q32 b).2, rlow32 x0,
    rmul_eq a0 a1 b0 b1, rmulh_eq (k + 67) a0 a1 b0 b1, rmulhsu_eq (k + 67) a0 a1 b0 b1, rmulhu_eq (k + 67) a0 a1 b0 b1, rdiv_eq a0 a1 b0 b1, rdivu_eq a0 a1 b0, rrem_eq a0 a1 b0 b1, rremu_eq a0,
    rmulw_eq a0 a1 b0 b1, rdivw_eq a0 a1 b0 b1, rdivuw_eq a0 a1 b0 b1, rremw_eq a0 a1 b0 b1, rremuw_eq a0 a1 b0 b1]
  simp only [bsm, rone_eq, IntKind.wrap_u64, signed_eq hK ei.1 ei.2 (q32 i).1 (q32 i).2, signed_eq hK ei.1 ei.2 (q32 b).1 (q32 b).2, rlow32 (mod0 _), rlow32 (div0 _), emodM, sg_ext, wrap32_mod]
  unfold W
  simp only [apply_ite some]

theorem w_eq (op : Int) {a b imm : Int} (pc : Int) (h : 5 ≤ op ∨ op < 1) : V op imm a b pc = W op (imm % 18446744073709551616) a b := by
  unfold V
  rw [if_neg (show ¬op = 1 by omega), if_neg (show ¬op = 2 by omega), if_neg (show ¬(op = 3 ∨ op = 4) by omega)]
  generalize imm % 18446744073709551616 = i
  by_cases h0 : op < 22 ∨ 62 < op
  · rw [if_neg (show ¬(50 ≤ op ∧ op ≤ 62) by omega), if_neg (show ¬(22 ≤ op ∧ op ≤ 34) by omega)]
    unfold Lg Sh W
    simp only [show ¬op = 22 by omega, show ¬op = 23 by omega, show ¬op = 24 by omega, show ¬op = 25 by omega, show ¬op = 26 by omega, show ¬op = 27 by omega, show ¬op = 28 by omega, show ¬op = 29 by omega, show ¬op = 30 by omega, show ¬op = 31 by omega, show ¬op = 32 by omega, show ¬op = 33 by omega, show ¬op = 34 by omega, show ¬op = 35 by omega, show ¬op = 36 by omega, show ¬op = 37 by omega, show ¬op = 38 by omega, show ¬op = 39 by omega, show ¬op = 40 by omega, show ¬op = 41 by omega, show ¬op = 42 by omega, show ¬op = 43 by omega, show ¬op = 44 by omega, show ¬op = 45 by omega, show ¬op = 46 by omega, show ¬op = 47 by omega, show ¬op = 48 by omega, show ¬op = 49 by omega, show ¬op = 50 by omega, show ¬op = 51 by omega, show ¬op = 52 by omega, show ¬op = 53 by omega, show ¬op = 54 by omega, show ¬op = 55 by omega, show ¬op = 56 by omega, show ¬op = 57 by omega, show ¬op = 58 by omega, show ¬op = 59 by omega, show ¬op = 60 by omega, show ¬op = 61 by omega, show ¬op = 62 by omega, or_self, if_false, Bool.false_eq_true]

  have hc : (op = 22 ∨ op = 23 ∨ op = 24 ∨ op = 25 ∨ op = 26 ∨ op = 27 ∨ op = 28 ∨ op = 29) ∨ (op = 30 ∨ op = 31 ∨ op = 32 ∨ op = 33 ∨ op = 34 ∨ op = 35 ∨ op = 36 ∨ op = 37) ∨ (op = 38 ∨ op = 39 ∨ op = 40 ∨ op = 41 ∨ op = 42 ∨ op = 43 ∨ op = 44 ∨ op = 45) ∨ (op = 46 ∨ op = 47 ∨ op = 48 ∨ op = 49 ∨ op = 50 ∨ op = 51 ∨ op = 52 ∨ op = 53) ∨ (op = 54 ∨ op = 55 ∨ op = 56 ∨ op = 57 ∨ op = 58 ∨ op = 59 ∨ op = 60 ∨ op = 61) ∨ (op = 62) := by omega
  rcases hc with (rfl | rfl | rfl | rfl | rfl | rfl | rfl | rfl) | (rfl | rfl | rfl | rfl | rfl | rfl | rfl | rfl) | (rfl | rfl | rfl | rfl | rfl | rfl | rfl | rfl) | (rfl | rfl | rfl | rfl | rfl | rfl | rfl | rfl) | (rfl | rfl | rfl | rfl | rfl | rfl | rfl | rfl) | (rfl)
  all_goals rfl
theorem ref_eq (k : Nat) (op r p q imm c : Int) (x y : Bool) {a b pc : Int} (a0 : 0 ≤ a) (a1 : a < 18446744073709551616) (b0 : 0 ≤ b) (b1 : b < 18446744073709551616) :
    mezzanineref21_Value.f (k + 70) op r p q imm c x y a b pc = some (V op imm a b pc) := by
  unfold mezzanineref21_Value.f
  have i0 : 0 ≤ imm % 18446744073709551616 := by omega
  have i1 : imm % 18446744073709551616 < 18446744073709551616 := by omega
  rw [IntKind.wrap_u64, IntKind.wrap_u64, Int.tmod_eq_emod_of_nonneg a0, rj0 k op a0 a1 b0 b1 i0 i1, rj0 k op a0 a1 b0 b1 i0 i1, show (pc + imm % 18446744073709551616) % 18446744073709551616 = (pc + imm) % 18446744073709551616 by omega]
  by_cases h1 : op = 1
  · rw [if_pos h1]; unfold V; rw [if_pos h1]
  rw [if_neg h1]
  by_cases h2 : op = 2
  · rw [if_pos h2]; unfold V; rw [if_neg h1, if_pos h2]
  rw [if_neg h2]
  by_cases h3 : op = 3
  · rw [if_pos h3, if_pos (by rw [h3]; rfl)]; unfold V; rw [if_neg h1, if_neg h2, if_pos (Or.inl h3)]
  rw [if_neg h3]
  by_cases h4 : op = 4
  · rw [if_pos (by rw [h4]; rfl)]; unfold V; rw [if_neg h1, if_neg h2, if_pos (Or.inr h4)]
  · rw [if_neg (by simp [h4]), w_eq op pc (by omega)]
end Go.Proofs.Ytbfdehkejohjhaa.QA
