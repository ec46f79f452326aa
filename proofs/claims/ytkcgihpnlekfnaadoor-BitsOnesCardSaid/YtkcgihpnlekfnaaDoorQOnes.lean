/- The numbers of a word's ones, and the word that numbers make: what the printed functions tell. -/
import Derived.Test.YtkcgihpnlekfnaaDoorQx2
import Derived.Test.YtkcgihpnlekfnaaDoorQx1
import Derived.Test.YtkcgihpnlekfnaaDoorArr
set_option linter.unusedSimpArgs false
set_option linter.unusedVariables false
namespace Go.Proofs.YtkcgihpnlekfnaaDoor.QO
open Go.RowKit Go.Proofs.YtkcgihpnlekfnaaDoor.Q Go.Proofs.YtkcgihpnlekfnaaDoorW.PrintWords Go.Proofs.YtkcgihpnlekfnaaDoorW.PrintLast Go.Proofs.YtkcgihpnlekfnaaDoorW.PrintMore Go.Proofs.YtkcgihpnlekfnaaDoor.Bv
theorem bsm {α β : Type} (a : α) (f : α → Option β) : (some a).bind f = f a := by cases h : (some a).bind f <;> simp_all
theorem bits_awake (k : Nat) : mezzaninelaw01_awake.f (k + 5) = some true := by kernel_rfl
/-- The numbers below p of x's ones. -/
def ones (x : Nat) : Nat → List Int
  | 0 => []
  | p + 1 => if x.testBit p = true then ones x p ++ [(p : Int)] else ones x p
theorem ones_len (x : Nat) : ∀ p, (ones x p).length ≤ p
  | 0 => Nat.le_refl _
  | p + 1 => by
    have := ones_len x p
    unfold ones; split
    · rw [List.length_append]; simp; omega
    · omega
theorem ones_skip (x p : Nat) : ∀ d, (∀ i, p ≤ i → i < p + d → x.testBit i = false) → ones x (p + d) = ones x p
  | 0, _ => rfl
  | d + 1, h => by
    rw [← Nat.add_assoc, ones, if_neg (by rw [h (p + d) (by omega) (by omega)]; decide)]
    exact ones_skip x p d fun i h0 h1 => h i h0 (by omega)
/-- A number's lowest one, and what is left without it. -/
theorem lowest (y : Nat) (h0 : y ≠ 0) (h1 : y < 18446744073709551616) : ∃ k, Lib.ctz 64 y = k ∧ k < 64 ∧ y.testBit k = true ∧ (∀ i, i < k → y.testBit i = false) ∧ ∀ i, (y &&& (y - 1)).testBit i = (decide (i ≠ k) && y.testBit i) := by
  obtain ⟨m, hm, hk⟩ := Lib.ctzFrom_spec 64 y (by omega) h1
  refine ⟨Lib.ctzFrom 64 y, by unfold Lib.ctz; rw [if_neg h0], hk, ?_⟩
  generalize Lib.ctzFrom 64 y = k at hm hk
  have hp := Nat.two_pow_pos k
  have e1 : y = 2 ^ (k + 1) * m + 2 ^ k := by rw [hm, Nat.mul_add, Nat.mul_one, Nat.pow_succ, Nat.mul_assoc]
  have e2 : y - 1 = 2 ^ (k + 1) * m + (2 ^ k - 1) := by omega
  have l1 : 2 ^ k < 2 ^ (k + 1) := Nat.pow_lt_pow_right (by decide) (by omega)
  have t1 (i : Nat) : y.testBit i = if i < k + 1 then decide (k = i) else m.testBit (i - (k + 1)) := by
    rw [e1, Nat.testBit_two_pow_mul_add _ l1, Nat.testBit_two_pow]
  have t2 (i : Nat) : (y - 1).testBit i = if i < k + 1 then decide (i < k) else m.testBit (i - (k + 1)) := by
    rw [e2, Nat.testBit_two_pow_mul_add _ (by omega), Nat.testBit_two_pow_sub_one]
  refine ⟨by rw [t1, if_pos (by omega)]; simp, fun i hi => by rw [t1, if_pos (by omega)]; simp; omega, fun i => ?_⟩
  rw [Nat.testBit_and, t1, t2]
  by_cases hi : i < k + 1
  · rw [if_pos hi, if_pos hi]
    by_cases he : i = k
    · subst he; simp
    · have : ¬k = i := fun e => he e.symm
      simp [he, this]
  · rw [if_neg hi, if_neg hi]
    have : i ≠ k := by omega
    simp [this]
theorem tz_eq (y : Nat) (h1 : y < 18446744073709551616) : bits_TrailingZeros64.f (y : Int) = some (Lib.ctz 64 y : Int) := by
  unfold bits_TrailingZeros64.f; rw [if_pos (by omega), Int.toNat_natCast]
theorem and_pred (y : Nat) (h0 : y ≠ 0) (h1 : y < 18446744073709551616) : Go.bits .and .u64 (y : Int) (IntKind.u64.wrap ((y : Int) - 1)) = ((y &&& (y - 1) : Nat) : Int) := by
  rw [IntKind.wrap_u64, show ((y : Int) - 1) % 18446744073709551616 = ((y - 1 : Nat) : Int) by omega, u64_and_nat _ _ h1 (by omega)]
theorem ones_loop (x : Nat) : ∀ m p y : Nat, (∀ i, i < p → y.testBit i = false) → (∀ i, p ≤ i → y.testBit i = x.testBit i) → y < 18446744073709551616 → p ≤ 64 → 64 - p ≤ m →
    bits_Ones.l0 (m + 1) (y : Int) (ones x p) = some (ones x 64) := by
  intro m
  induction m with
  | zero =>
    intro p y hlo hhi hy hp hm
    obtain rfl : p = 64 := by omega
    have hz : y = 0 := by
      apply Nat.eq_of_testBit_eq; intro i
      rw [Nat.zero_testBit]
      by_cases hi : i < 64
      · exact hlo i hi
      · exact Nat.testBit_lt_two_pow (Nat.lt_of_lt_of_le hy (Nat.pow_le_pow_right (show 0 < 2 by decide) (show 64 ≤ i by omega)))
    rw [bits_Ones.l0, hz, if_pos (show ((0 : Nat) : Int) = 0 from rfl)]
  | succ m ih =>
    intro p y hlo hhi hy hp hm
    rw [bits_Ones.l0]
    by_cases hz : y = 0
    · subst hz
      rw [if_pos (show ((0 : Nat) : Int) = 0 from rfl)]
      have := ones_skip x p (64 - p) fun i h0 _ => by rw [← hhi i h0, Nat.zero_testBit]
      rw [show p + (64 - p) = 64 by omega] at this
      rw [this]
    · obtain ⟨k, ek, hk, hb, hl, hr⟩ := lowest y hz hy
      have hpk : p ≤ k := by
        apply Nat.le_of_not_lt; intro h; rw [hlo k h] at hb; cases hb
      have hlen := ones_len x p
      rw [if_neg (by omega), tz_eq y hy, bsm, ek, if_pos (by omega), and_pred y hz hy]
      have e : ones x p ++ [(k : Int)] = ones x (k + 1) := by
        have h2 := ones_skip x p (k - p) fun i h0 h1 => by rw [← hhi i h0]; exact hl i (by omega)
        rw [show p + (k - p) = k by omega] at h2
        rw [ones, if_pos (by rw [← hhi k hpk]; exact hb), h2]
      rw [e]
      refine ih (k + 1) (y &&& (y - 1)) (fun i hi => ?_) (fun i hi => ?_) (Nat.lt_of_le_of_lt Nat.and_le_left hy) (by omega) (by omega)
      · rw [hr]
        by_cases he : i = k
        · simp [he]
        · rw [hl i (by omega)]; simp
      · rw [hr, hhi i (by omega)]; simp; intro h; omega
theorem ones_eq (k : Nat) (x : Nat) (h : x < 18446744073709551616) : bits_Ones.f (k + 65) (x : Int) = some (ones x 64) := by
  unfold bits_Ones.f
  exact ones_loop x (k + 64) 0 x (fun i hi => by omega) (fun _ _ => rfl) h (by omega) (by omega)
/-! ### the word that numbers make -/
def put1 (w : Nat) (i : Int) : Nat := if 0 ≤ i ∧ i < 64 then w ||| 2 ^ i.toNat else w
theorem put1_lt {w : Nat} (h : w < 18446744073709551616) (i : Int) : put1 w i < 18446744073709551616 := by
  unfold put1; split
  · exact Nat.or_lt_two_pow (n := 64) h (Nat.pow_lt_pow_right (by decide) (by omega))
  · exact h
theorem shl_one {n : Int} (h0 : 0 ≤ n) (h1 : n < 64) : shl .u64 1 n = ((2 ^ n.toNat : Nat) : Int) := by
  have hp : 2 ^ n.toNat < 2 ^ 64 := Nat.pow_lt_pow_right (by decide) (by omega)
  unfold shl; rw [show IntKind.u64.bits = 64 from rfl, Nat.min_eq_left (by omega), IntKind.wrap_u64, Int.one_mul, show ((2 : Int) ^ n.toNat) = ((2 ^ n.toNat : Nat) : Int) by simp]
  generalize 2 ^ n.toNat = P at hp ⊢
  omega
theorem rd_at {l : List Int} {i : Nat} (h : i < l.length) : rd l (i : Int) = l[i] := by
  unfold rd; simp [h]
theorem of_loop (l : List Int) (hl : l.length < 9223372036854775807) : ∀ m i w : Nat, l.length - i ≤ m → i ≤ l.length → w < 18446744073709551616 →
    bits_Of.l0 (m + 1) (w : Int) l (l.length : Int) (i : Int) = some (((l.drop i).foldl put1 w : Nat) : Int) := by
  intro m
  induction m with
  | zero =>
    intro i w hm hi hw
    obtain rfl : i = l.length := by omega
    rw [bits_Of.l0, if_neg (by omega), List.drop_length]; rfl
  | succ m ih =>
    intro i w hm hi hw
    rw [bits_Of.l0]
    by_cases hlt : i < l.length
    · have hd : l.drop i = l[i] :: l.drop (i + 1) := List.drop_eq_getElem_cons hlt
      have e1 : wrap64 ((i : Int) + 1) = ((i + 1 : Nat) : Int) := by unfold wrap64; omega
      rw [if_pos (by omega), if_pos (by omega), if_pos (by omega), rd_at hlt, e1, hd, List.foldl_cons, ih (i + 1) w (by omega) (by omega) hw]
      by_cases h0 : l[i] ≥ 0
      · by_cases h1 : l[i] < 64
        · have e2 : put1 w l[i] = w ||| 2 ^ (l[i]).toNat := by unfold put1; rw [if_pos ⟨h0, h1⟩]
          have hp : 2 ^ (l[i]).toNat < 2 ^ 64 := Nat.pow_lt_pow_right (by decide) (by omega)
          rw [if_pos h0, if_pos h1, if_pos h0, shl_one h0 h1, u64_or_nat _ _ hw hp, ih (i + 1) _ (by omega) (by omega) (by rw [← e2]; exact put1_lt hw _), e2]
        · rw [if_pos h0, if_neg h1]; unfold put1; rw [if_neg (by omega)]
      · rw [if_neg h0]; unfold put1; rw [if_neg (by omega)]
    · obtain rfl : i = l.length := by omega
      rw [if_neg (by omega), List.drop_length]; rfl
theorem of_eq (k : Nat) (l : List Int) (hl : l.length ≤ k) (hl2 : l.length < 9223372036854775807) : bits_Of.f (k + 1) l = some ((l.foldl put1 0 : Nat) : Int) := by
  unfold bits_Of.f
  have := of_loop l hl2 k 0 0 (by omega) (by omega) (by decide)
  simpa using this
theorem fold_ones (x : Nat) : ∀ p, p ≤ 64 → (ones x p).foldl put1 0 = x % 2 ^ p
  | 0, _ => by simp [ones, Nat.mod_one]
  | p + 1, h => by
    have ih := fold_ones x p (by omega)
    have key : x % 2 ^ (p + 1) = if x.testBit p = true then x % 2 ^ p ||| 2 ^ p else x % 2 ^ p := by
      apply Nat.eq_of_testBit_eq; intro i
      rw [Nat.testBit_mod_two_pow]
      by_cases hb : x.testBit p = true
      · rw [if_pos hb, Nat.testBit_or, Nat.testBit_mod_two_pow, Nat.testBit_two_pow]
        by_cases he : i = p
        · subst he; simp [hb]
        · have h2 : decide (i < p + 1) = decide (i < p) := decide_eq_decide.2 (by omega)
          have h3 : decide (p = i) = false := decide_eq_false (fun e => he e.symm)
          rw [h2, h3, Bool.or_false]
      · rw [if_neg hb, Nat.testBit_mod_two_pow]
        by_cases he : i = p
        · subst he; simp [hb]
        · have h2 : decide (i < p + 1) = decide (i < p) := decide_eq_decide.2 (by omega)
          rw [h2]
    rw [ones, key]
    by_cases hb : x.testBit p = true
    · rw [if_pos hb, if_pos hb, List.foldl_append, ih]
      show put1 (x % 2 ^ p) (p : Int) = _
      unfold put1; rw [if_pos (by omega), Int.toNat_natCast]
    · rw [if_neg hb, if_neg hb, ih]
/-! ### each of them is a bit of it, and they rise -/
theorem ones_mem (x : Nat) : ∀ p (i : Nat) (h : i < (ones x p).length), ∃ n : Nat, (ones x p)[i] = (n : Int) ∧ n < p ∧ x.testBit n = true
  | 0, i, h => by simp [ones] at h
  | p + 1, i, h => by
    by_cases hb : x.testBit p = true
    · have e : ones x (p + 1) = ones x p ++ [(p : Int)] := by rw [ones, if_pos hb]
      have h' : i < (ones x p ++ [(p : Int)]).length := by rw [← e]; exact h
      have e2 : (ones x (p + 1))[i] = (ones x p ++ [(p : Int)])[i] := by congr 1
      rw [e2]
      by_cases hi : i < (ones x p).length
      · rw [List.getElem_append_left hi]
        obtain ⟨n, h1, h2, h3⟩ := ones_mem x p i hi
        exact ⟨n, h1, by omega, h3⟩
      · rw [List.getElem_append_right (by omega)]
        simp
        exact ⟨p, rfl, by omega, hb⟩
    · have e : ones x (p + 1) = ones x p := by rw [ones, if_neg hb]
      have h' : i < (ones x p).length := by rw [← e]; exact h
      have e2 : (ones x (p + 1))[i] = (ones x p)[i] := by congr 1
      rw [e2]
      obtain ⟨n, h1, h2, h3⟩ := ones_mem x p i h'
      exact ⟨n, h1, by omega, h3⟩
theorem ones_rise (x : Nat) : ∀ p (i : Nat) (h : i + 1 < (ones x p).length), (ones x p)[i] < (ones x p)[i + 1]
  | 0, i, h => by simp [ones] at h
  | p + 1, i, h => by
    by_cases hb : x.testBit p = true
    · have e : ones x (p + 1) = ones x p ++ [(p : Int)] := by rw [ones, if_pos hb]
      have h' : i + 1 < (ones x p ++ [(p : Int)]).length := by rw [← e]; exact h
      have e2 : (ones x (p + 1))[i] = (ones x p ++ [(p : Int)])[i] := by congr 1
      have e3 : (ones x (p + 1))[i + 1] = (ones x p ++ [(p : Int)])[i + 1] := by congr 1
      rw [e2, e3]
      have hl : (ones x p ++ [(p : Int)]).length = (ones x p).length + 1 := by simp
      have hi0 : i < (ones x p).length := by omega
      rw [List.getElem_append_left hi0]
      by_cases hi : i + 1 < (ones x p).length
      · rw [List.getElem_append_left hi]; exact ones_rise x p i hi
      · rw [List.getElem_append_right (by omega)]
        obtain ⟨n, h1, h2, h3⟩ := ones_mem x p i hi0
        rw [h1]; simp; exact h2
    · have e : ones x (p + 1) = ones x p := by rw [ones, if_neg hb]
      have h' : i + 1 < (ones x p).length := by rw [← e]; exact h
      have e2 : (ones x (p + 1))[i] = (ones x p)[i] := by congr 1
      have e3 : (ones x (p + 1))[i + 1] = (ones x p)[i + 1] := by congr 1
      rw [e2, e3]; exact ones_rise x p i h'
theorem bit_eq (x n : Nat) (hx : x < 18446744073709551616) (hn : n < 64) : bits_Bit_uint64.f (x : Int) (n : Int) = some (x.testBit n) := by
  unfold bits_Bit_uint64.f
  rw [if_pos (by omega), if_pos (by omega), if_pos (by omega)]
  have e : shr .u64 (x : Int) (n : Int) = ((x / 2 ^ n : Nat) : Int) := by
    unfold shr; rw [show IntKind.u64.bits = 64 from rfl, Nat.min_eq_left (by omega), Int.toNat_natCast]; simp
  have hd : x / 2 ^ n < 18446744073709551616 := Nat.lt_of_le_of_lt (Nat.div_le_self _ _) hx
  rw [e, show (1 : Int) = ((2 ^ 1 - 1 : Nat) : Int) from rfl, u64_and_nat _ _ hd (by decide), Nat.and_two_pow_sub_one_eq_mod, Nat.testBit_eq_decide_div_mod_eq]
  congr 1
  generalize x / 2 ^ n = q
  rw [Bool.eq_iff_iff, beq_iff_eq, decide_eq_true_iff]; omega
end Go.Proofs.YtkcgihpnlekfnaaDoor.QO
