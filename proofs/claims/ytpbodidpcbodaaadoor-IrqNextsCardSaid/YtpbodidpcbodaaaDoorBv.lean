/- Words of 64 bits as bit vectors: how the whole numbers of the printed functions are read as them. Plain lemmas, no program. -/
import Derived.Test.YtpbodidpcbodaaaDoorWMore
set_option linter.unusedSimpArgs false
set_option linter.unusedVariables false
namespace Go.Proofs.YtpbodidpcbodaaaDoor.Bv
open Go.RowKit Go.Proofs.YtpbodidpcbodaaaDoorW.PrintWords Go.Proofs.YtpbodidpcbodaaaDoorW.PrintLast Go.Proofs.YtpbodidpcbodaaaDoorW.PrintMore

/-- The number of a word. -/
def U (x : BitVec 64) : Int := (x.toNat : Int)
/-- Its number, read signed. -/
def S (x : BitVec 64) : Int := x.toInt

theorem U_range (x : BitVec 64) : 0 ≤ U x ∧ U x < 18446744073709551616 := by
  unfold U; have := x.isLt; omega
theorem S_range (x : BitVec 64) : -9223372036854775808 ≤ S x ∧ S x < 9223372036854775808 := by
  have h1 := BitVec.le_toInt x
  have h2 := BitVec.toInt_lt (x := x)
  unfold S; simp at h1 h2; omega
theorem u64_in {a : Int} (h : (Lit.int .u64 a).wf = true) : 0 ≤ a ∧ a < 18446744073709551616 := by
  simp only [Lit.wf, IntKind.min, IntKind.max, IntKind.signed, IntKind.bits, Bool.and_eq_true, decide_eq_true_eq] at h
  simp at h; omega
theorem i64_in {a : Int} (h : (Lit.int .i64 a).wf = true) : -9223372036854775808 ≤ a ∧ a < 9223372036854775808 := by
  simp only [Lit.wf, IntKind.min, IntKind.max, IntKind.signed, IntKind.bits, Bool.and_eq_true, decide_eq_true_eq] at h
  simp at h; omega
theorem u32_in {a : Int} (h : (Lit.int .u32 a).wf = true) : 0 ≤ a ∧ a < 4294967296 := by
  simp only [Lit.wf, IntKind.min, IntKind.max, IntKind.signed, IntKind.bits, Bool.and_eq_true, decide_eq_true_eq] at h
  simp at h; omega
theorem u8_in {a : Int} (h : (Lit.int .u8 a).wf = true) : 0 ≤ a ∧ a < 256 := by
  simp only [Lit.wf, IntKind.min, IntKind.max, IntKind.signed, IntKind.bits, Bool.and_eq_true, decide_eq_true_eq] at h
  simp at h; omega
theorem U_ofInt {a : Int} (h0 : 0 ≤ a) (h1 : a < 18446744073709551616) : U (BitVec.ofInt 64 a) = a := by
  unfold U; rw [BitVec.toNat_ofInt]
  have : (a % ((2 ^ 64 : Nat) : Int)) = a := by simp; omega
  rw [this]; omega
theorem S_ofInt {a : Int} (h0 : -9223372036854775808 ≤ a) (h1 : a < 9223372036854775808) : S (BitVec.ofInt 64 a) = a := by
  unfold S; rw [BitVec.toInt_ofInt, Int.bmod_def]; simp; split <;> omega
theorem U_of {a : Int} (h0 : 0 ≤ a) (h1 : a < 18446744073709551616) : ∃ x, a = U x := ⟨_, (U_ofInt h0 h1).symm⟩
theorem S_of {a : Int} (h0 : -9223372036854775808 ≤ a) (h1 : a < 9223372036854775808) : ∃ x, a = S x := ⟨_, (S_ofInt h0 h1).symm⟩
theorem U_wf {a : Int} (h : (Lit.int .u64 a).wf = true) : ∃ x, a = U x := U_of (u64_in h).1 (u64_in h).2
theorem S_wf {a : Int} (h : (Lit.int .i64 a).wf = true) : ∃ x, a = S x := S_of (i64_in h).1 (i64_in h).2
theorem U_inj {x y : BitVec 64} : U x = U y ↔ x = y := by
  unfold U; rw [← BitVec.toNat_inj]; omega
theorem S_inj {x y : BitVec 64} : S x = S y ↔ x = y := by
  unfold S; exact BitVec.toInt_inj
theorem ofInt_U (x : BitVec 64) : BitVec.ofInt 64 (U x) = x := by
  apply BitVec.eq_of_toNat_eq; rw [BitVec.toNat_ofInt]; unfold U
  have := x.isLt; simp; omega
theorem ofInt_S (x : BitVec 64) : BitVec.ofInt 64 (S x) = x := by
  unfold S; exact BitVec.ofInt_toInt
/-- A wrapped number is the word of the number. -/
theorem wrap_u64 (a : Int) : IntKind.u64.wrap a = U (BitVec.ofInt 64 a) := by
  unfold U; rw [BitVec.toNat_ofInt, IntKind.wrap_u64]; simp
  have : 0 ≤ a % 18446744073709551616 := by omega
  omega
theorem wrap_i64 (a : Int) : IntKind.i64.wrap a = S (BitVec.ofInt 64 a) := by
  unfold S; rw [BitVec.toInt_ofInt, Int.bmod_def, IntKind.wrap_i64]; simp; split <;> omega
theorem wrap64_S (a : Int) : wrap64 a = S (BitVec.ofInt 64 a) := by
  unfold S wrap64; rw [BitVec.toInt_ofInt, Int.bmod_def]; simp; split <;> omega
theorem add_UU (x y : BitVec 64) : BitVec.ofInt 64 (U x + U y) = x + y := by rw [BitVec.ofInt_add, ofInt_U, ofInt_U]
theorem sub_UU (x y : BitVec 64) : BitVec.ofInt 64 (U x - U y) = x - y := by
  rw [Int.sub_eq_add_neg, BitVec.ofInt_add, BitVec.ofInt_neg, ofInt_U, ofInt_U, BitVec.sub_eq_add_neg]
theorem mul_UU (x y : BitVec 64) : BitVec.ofInt 64 (U x * U y) = x * y := by rw [BitVec.ofInt_mul, ofInt_U, ofInt_U]
theorem add_SS (x y : BitVec 64) : BitVec.ofInt 64 (S x + S y) = x + y := by rw [BitVec.ofInt_add, ofInt_S, ofInt_S]
theorem sub_SS (x y : BitVec 64) : BitVec.ofInt 64 (S x - S y) = x - y := by
  rw [Int.sub_eq_add_neg, BitVec.ofInt_add, BitVec.ofInt_neg, ofInt_S, ofInt_S, BitVec.sub_eq_add_neg]
theorem lt_UU (x y : BitVec 64) : U x < U y ↔ x < y := by unfold U; rw [BitVec.lt_def]; omega
theorem le_UU (x y : BitVec 64) : U x ≤ U y ↔ x ≤ y := by unfold U; rw [BitVec.le_def]; omega

/-! ### bit by bit -/
theorem bits_u64 (op : BinOp) (a b : Int) : bits op .u64 a b = U (match op with
    | .and => BitVec.ofInt 64 a &&& BitVec.ofInt 64 b
    | .or => BitVec.ofInt 64 a ||| BitVec.ofInt 64 b
    | .xor => BitVec.ofInt 64 a ^^^ BitVec.ofInt 64 b
    | _ => BitVec.ofInt 64 a &&& ~~~ BitVec.ofInt 64 b) := by
  have h (z : BitVec 64) : IntKind.u64.wrap (z.toNat : Int) = U z := by
    rw [wrap_u64]; congr 1; exact ofInt_U z
  unfold bits
  cases op <;> exact h _
theorem bits_i64 (op : BinOp) (a b : Int) : bits op .i64 a b = S (match op with
    | .and => BitVec.ofInt 64 a &&& BitVec.ofInt 64 b
    | .or => BitVec.ofInt 64 a ||| BitVec.ofInt 64 b
    | .xor => BitVec.ofInt 64 a ^^^ BitVec.ofInt 64 b
    | _ => BitVec.ofInt 64 a &&& ~~~ BitVec.ofInt 64 b) := by
  have h (z : BitVec 64) : IntKind.i64.wrap (z.toNat : Int) = S z := by
    rw [wrap_i64]; congr 1; exact ofInt_U z
  unfold bits
  cases op <;> exact h _
theorem and_u64 (a b : Int) : bits .and .u64 a b = U (BitVec.ofInt 64 a &&& BitVec.ofInt 64 b) := bits_u64 ..
theorem or_u64 (a b : Int) : bits .or .u64 a b = U (BitVec.ofInt 64 a ||| BitVec.ofInt 64 b) := bits_u64 ..
theorem xor_u64 (a b : Int) : bits .xor .u64 a b = U (BitVec.ofInt 64 a ^^^ BitVec.ofInt 64 b) := bits_u64 ..
theorem andNot_u64 (a b : Int) : bits .andNot .u64 a b = U (BitVec.ofInt 64 a &&& ~~~ BitVec.ofInt 64 b) := bits_u64 ..
theorem and_i64 (a b : Int) : bits .and .i64 a b = S (BitVec.ofInt 64 a &&& BitVec.ofInt 64 b) := bits_i64 ..
theorem or_i64 (a b : Int) : bits .or .i64 a b = S (BitVec.ofInt 64 a ||| BitVec.ofInt 64 b) := bits_i64 ..
theorem andNot_i64 (a b : Int) : bits .andNot .i64 a b = S (BitVec.ofInt 64 a &&& ~~~ BitVec.ofInt 64 b) := bits_i64 ..

/-! ### shifts -/
theorem ofInt_mul_pow (x : BitVec 64) (n : Nat) : BitVec.ofInt 64 (U x * 2 ^ n) = x <<< n := by
  apply BitVec.eq_of_toNat_eq
  rw [BitVec.toNat_ofInt, BitVec.toNat_shiftLeft, Nat.shiftLeft_eq]; unfold U
  have e : ((x.toNat : Int) * 2 ^ n) = ((x.toNat * 2 ^ n : Nat) : Int) := by simp
  rw [e]; omega
theorem ofInt_mul_powS (x : BitVec 64) (n : Nat) : BitVec.ofInt 64 (S x * 2 ^ n) = x <<< n := by
  rw [← ofInt_mul_pow, BitVec.ofInt_mul, BitVec.ofInt_mul, ofInt_S, ofInt_U]
theorem shl_u64 (x : BitVec 64) (n : Int) : shl .u64 (U x) n = U (x <<< n.toNat) := by
  unfold shl; rw [wrap_u64, show IntKind.u64.bits = 64 from rfl, ofInt_mul_pow]
  congr 1
  by_cases h : n.toNat ≤ 64
  · rw [Nat.min_eq_left h]
  · rw [Nat.min_eq_right (by omega), BitVec.shiftLeft_eq_zero (by omega), BitVec.shiftLeft_eq_zero (by omega)]
theorem shl_i64 (x : BitVec 64) (n : Int) : shl .i64 (S x) n = S (x <<< n.toNat) := by
  unfold shl; rw [wrap_i64, show IntKind.i64.bits = 64 from rfl, ofInt_mul_powS]
  congr 1
  by_cases h : n.toNat ≤ 64
  · rw [Nat.min_eq_left h]
  · rw [Nat.min_eq_right (by omega), BitVec.shiftLeft_eq_zero (by omega), BitVec.shiftLeft_eq_zero (by omega)]
theorem U_div_pow (x : BitVec 64) (n : Nat) : U x / 2 ^ n = U (x >>> n) := by
  unfold U; rw [BitVec.toNat_ushiftRight, Nat.shiftRight_eq_div_pow]; simp
theorem S_div_pow (x : BitVec 64) (n : Nat) : S x / 2 ^ n = S (x.sshiftRight n) := by
  unfold S; rw [BitVec.toInt_sshiftRight, Int.shiftRight_eq_div_pow]; simp
theorem shr_u64 (x : BitVec 64) (n : Int) : shr .u64 (U x) n = U (x >>> n.toNat) := by
  unfold shr; rw [show IntKind.u64.bits = 64 from rfl, U_div_pow]
  congr 1
  by_cases h : n.toNat ≤ 64
  · rw [Nat.min_eq_left h]
  · rw [Nat.min_eq_right (by omega)]
    apply BitVec.eq_of_getLsbD_eq; intro i hi
    rw [BitVec.getLsbD_ushiftRight, BitVec.getLsbD_ushiftRight, BitVec.getLsbD_of_ge _ _ (by omega), BitVec.getLsbD_of_ge _ _ (by omega)]
theorem shr_i64 (x : BitVec 64) (n : Int) : shr .i64 (S x) n = S (x.sshiftRight n.toNat) := by
  unfold shr; rw [show IntKind.i64.bits = 64 from rfl, S_div_pow]
  congr 1
  by_cases h : n.toNat ≤ 64
  · rw [Nat.min_eq_left h]
  · rw [Nat.min_eq_right (by omega)]
    apply BitVec.eq_of_getLsbD_eq; intro i hi
    simp [BitVec.getLsbD_sshiftRight, show ¬ (64 + i < 64) by omega, show ¬ (n.toNat + i < 64) by omega]
theorem two_shl (n : Int) : (2 : Int) * n = n * 2 ^ 1 := by omega

/-! ### masks -/
/-- n ones. -/
def mk (n : Nat) : BitVec 64 := BitVec.allOnes 64 >>> (64 - n)
theorem mk_bit (n i : Nat) : (mk n).getLsbD i = (decide (i < 64) && decide (i < n)) := by
  unfold mk; rw [BitVec.getLsbD_ushiftRight, BitVec.getLsbD_allOnes]
  by_cases h1 : i < 64 <;> by_cases h2 : i < n <;> simp [h1, h2] <;> omega
theorem mk_all (n : Nat) (h : 64 ≤ n) : mk n = BitVec.allOnes 64 := by
  unfold mk; rw [show 64 - n = 0 by omega]; rfl
theorem mk_small : ∀ n : Fin 64, (1#64 <<< n.val) - 1#64 = mk n.val := by decide +kernel
theorem toNat_mk (n : Nat) (h : n ≤ 64) : (mk n).toNat = 2 ^ n - 1 := by
  by_cases h64 : n = 64
  · subst h64; rfl
  · have : ∀ n : Fin 64, (mk n.val).toNat = 2 ^ n.val - 1 := by decide +kernel
    exact this ⟨n, by omega⟩
theorem and_mk_toNat (x : BitVec 64) (n : Nat) (h : n ≤ 64) : (x &&& mk n).toNat = x.toNat % 2 ^ n := by
  rw [BitVec.toNat_and, toNat_mk n h, Nat.and_two_pow_sub_one_eq_mod]
theorem U_mod_pow (x : BitVec 64) (n : Nat) (h : n ≤ 64) : U x % 2 ^ n = U (x &&& mk n) := by
  unfold U; rw [and_mk_toNat x n h]; simp
end Go.Proofs.YtpbodidpcbodaaaDoor.Bv
