/- Numbers whose bits lie at places of a word: plain lemmas about lists of places, the lowest first (a place below nought: no bit). No program. -/
import Derived.Test.YtkolnfhaoklmaaaBv
set_option linter.unusedSimpArgs false
set_option linter.unusedVariables false
namespace Go.Proofs.Ytkolnfhaoklmaaa.QF
open Go.RowKit Go.Proofs.YtkolnfhaoklmaaaW.PrintWords Go.Proofs.YtkolnfhaoklmaaaW.PrintLast Go.Proofs.YtkolnfhaoklmaaaW.PrintMore Go.Proofs.Ytkolnfhaoklmaaa.Bv

def bit1 (b : Bool) : Nat := if b = true then 1 else 0
theorem bit1_lt (b : Bool) : bit1 b < 2 := by cases b <;> decide
theorem testBit0 (n : Nat) : n.testBit 0 = decide (n % 2 = 1) := by simp [Nat.testBit_zero]
theorem bit1_mod (n k : Nat) : bit1 (n.testBit k) = n / 2 ^ k % 2 := by
  unfold bit1; rw [Nat.testBit_eq_decide_div_mod_eq]
  by_cases h : n / 2 ^ k % 2 = 1
  · rw [if_pos (decide_eq_true h), h]
  · rw [if_neg (by simpa using h)]; omega
/-- The bit of a place. -/
def at_ (w : Nat) (q : Int) : Nat := if 0 ≤ q then bit1 (w.testBit q.toNat) else 0
def num (w : Nat) : List Int → Nat
  | [] => 0
  | q :: L => at_ w q + 2 * num w L
/-- A bit that goes to its place. -/
def to_ (n : Nat) (q : Int) : Nat := if 0 ≤ q ∧ n.testBit 0 = true then 2 ^ q.toNat else 0
def put (n : Nat) : List Int → Nat
  | [] => 0
  | q :: L => to_ n q ||| put (n / 2) L
def bs : List Int → Nat
  | [] => 0
  | q :: L => (if 0 ≤ q then 2 ^ q.toNat else 0) ||| bs L
def ok (n : Nat) : List Int → Bool
  | [] => true
  | q :: L => (decide (0 ≤ q) || !n.testBit 0) && ok (n / 2) L
def rng (l : Nat) : Nat → List Int
  | 0 => []
  | k + 1 => (l : Int) :: rng (l + 1) k
theorem rng_len (l k : Nat) : (rng l k).length = k := by
  induction k generalizing l with
  | zero => rfl
  | succ k ih => simp [rng, ih]
theorem mod_two (v k : Nat) : v % 2 + 2 * (v / 2 % 2 ^ k) = v % 2 ^ (k + 1) := by rw [Nat.pow_succ, Nat.mul_comm (2 ^ k) 2, Nat.mod_mul]
theorem div_div_two (v k : Nat) : v / 2 ^ (k + 1) = v / 2 ^ k / 2 := by rw [Nat.pow_succ, Nat.div_div_eq_div_mul]
theorem div_two_div (v k : Nat) : v / 2 ^ (k + 1) = v / 2 / 2 ^ k := by rw [Nat.pow_succ, Nat.mul_comm, Nat.div_div_eq_div_mul]
theorem at_rng (w l : Nat) : at_ w (l : Int) = w / 2 ^ l % 2 := by
  unfold at_; rw [if_pos (by omega), Int.toNat_natCast, bit1_mod]
theorem num_rng (w l k : Nat) : num w (rng l k) = w / 2 ^ l % 2 ^ k := by
  induction k generalizing l with
  | zero => simp [rng, num, Nat.mod_one]
  | succ k ih => rw [rng, num, ih, at_rng, div_div_two, mod_two]
theorem num_app (w : Nat) (A B : List Int) : num w (A ++ B) = num w A + 2 ^ A.length * num w B := by
  induction A with
  | nil => simp [num]
  | cons q A ih => rw [List.cons_append, num, num, ih, List.length_cons, Nat.pow_succ, Nat.mul_add]; simp only [Nat.add_assoc, Nat.mul_assoc, Nat.mul_left_comm, Nat.mul_comm]
theorem at_lt (w : Nat) (q : Int) : at_ w q < 2 := by
  unfold at_; split
  · exact bit1_lt _
  · decide
theorem num_lt (w : Nat) (L : List Int) : num w L < 2 ^ L.length := by
  induction L with
  | nil => simp [num]
  | cons q L ih => rw [num, List.length_cons, Nat.pow_succ]; have := at_lt w q; omega
theorem num_reps (w s : Nat) : num w (List.replicate s (-1)) = 0 := by
  induction s with
  | zero => rfl
  | succ s ih => rw [List.replicate_succ, num, ih]; rfl
theorem or_add (a b i : Nat) (h : b < 2 ^ i) : 2 ^ i * a ||| b = 2 ^ i * a + b := (Nat.two_pow_add_eq_or_of_lt h a).symm
theorem put_app (n : Nat) (A B : List Int) : put n (A ++ B) = put n A ||| put (n / 2 ^ A.length) B := by
  induction A generalizing n with
  | nil => simp [put]
  | cons q A ih => rw [List.cons_append, put, put, ih, List.length_cons, div_two_div, Nat.or_assoc]
theorem put_rng (n l k : Nat) : put n (rng l k) = 2 ^ l * (n % 2 ^ k) := by
  induction k generalizing n l with
  | zero => simp [rng, put, Nat.mod_one]
  | succ k ih =>
    rw [rng, put, ih, ← mod_two]
    have e : to_ n (l : Int) = 2 ^ l * (n % 2) := by
      unfold to_; rw [testBit0, Int.toNat_natCast]
      by_cases h : n % 2 = 1
      · rw [if_pos ⟨by omega, decide_eq_true h⟩, h, Nat.mul_one]
      · rw [if_neg (by simp [h]), show n % 2 = 0 by omega, Nat.mul_zero]
    rw [e, Nat.or_comm, or_add _ _ _ (by have : n % 2 < 2 := Nat.mod_lt _ (by decide)
                                         have := Nat.two_pow_pos l
                                         rw [Nat.pow_succ]; exact Nat.mul_lt_mul_of_pos_left (by omega) this), Nat.pow_succ, Nat.mul_add, Nat.add_comm]
    simp only [Nat.mul_assoc]
theorem put_reps (n s : Nat) : put n (List.replicate s (-1)) = 0 := by
  induction s generalizing n with
  | zero => rfl
  | succ s ih => rw [List.replicate_succ, put, ih]; unfold to_; simp
theorem ok_app (n : Nat) (A B : List Int) : ok n (A ++ B) = (ok n A && ok (n / 2 ^ A.length) B) := by
  induction A generalizing n with
  | nil => simp [ok]
  | cons q A ih => rw [List.cons_append, ok, ok, ih, List.length_cons, div_two_div, Bool.and_assoc]
theorem ok_rng (n l k : Nat) : ok n (rng l k) = true := by
  induction k generalizing n l with
  | zero => rfl
  | succ k ih => rw [rng, ok, ih]; simp
theorem ok_reps (n s : Nat) : ok n (List.replicate s (-1)) = decide (n % 2 ^ s = 0) := by
  induction s generalizing n with
  | zero => simp [ok, Nat.mod_one]
  | succ s ih =>
    rw [List.replicate_succ, ok, ih, ← mod_two, testBit0]
    have h1 : n % 2 < 2 := Nat.mod_lt _ (by decide)
    by_cases h : n % 2 = 1
    · rw [h]; simp
    · rw [show n % 2 = 0 by omega]; simp; omega
theorem put_bit (n : Nat) (L : List Int) (j : Nat) (h : (put n L).testBit j = true) : (j : Int) ∈ L := by
  induction L generalizing n with
  | nil => simp [put] at h
  | cons q L ih =>
    rw [put, Nat.testBit_or, Bool.or_eq_true] at h
    rcases h with h | h
    · unfold to_ at h; split at h
      · rename_i h0; rw [Nat.testBit_two_pow] at h; simp at h; simp; left; omega
      · simp at h
    · exact List.mem_cons_of_mem _ (ih _ h)
def nd : List Int → Bool
  | [] => true
  | q :: L => (decide (q < 0) || !L.contains q) && nd L
theorem num_put (L : List Int) : ∀ (v n : Nat), nd L = true → ok n L = true → (∀ q ∈ L, 0 ≤ q → v.testBit q.toNat = (put n L).testBit q.toNat) → num v L = n % 2 ^ L.length := by
  induction L with
  | nil => intro v n _ _ _; simp [num, Nat.mod_one]
  | cons q L ih =>
    intro v n hd hk hv
    rw [nd, Bool.and_eq_true, Bool.or_eq_true, decide_eq_true_eq] at hd
    rw [ok, Bool.and_eq_true, Bool.or_eq_true, decide_eq_true_eq] at hk
    have hq : 0 ≤ q → q ∉ L := by
      intro h0; rcases hd.1 with h | h
      · omega
      · simpa using h
    have h1 : num v L = n / 2 % 2 ^ L.length := by
      refine ih v (n / 2) hd.2 hk.2 fun q' hq' h0 => ?_
      rw [hv q' (List.mem_cons_of_mem _ hq') h0, put, Nat.testBit_or]
      have : (to_ n q).testBit q'.toNat = false := by
        unfold to_; split
        · rename_i h2
          rw [Nat.testBit_two_pow]; simp only [decide_eq_false_iff_not]; intro h3
          exact hq h2.1 (by have : q = q' := by omega
                            exact this ▸ hq')
        · simp
      rw [this, Bool.false_or]
    have h2 : at_ v q = n % 2 := by
      unfold at_
      by_cases h0 : 0 ≤ q
      · rw [if_pos h0, hv q (List.mem_cons_self) h0, put, Nat.testBit_or]
        have h3 : (put (n / 2) L).testBit q.toNat = false := by
          cases hb : (put (n / 2) L).testBit q.toNat
          · rfl
          · have := put_bit _ _ _ hb; rw [Int.toNat_of_nonneg h0] at this; exact absurd this (hq h0)
        rw [h3, Bool.or_false]; unfold to_; rw [testBit0]
        by_cases h4 : n % 2 = 1
        · rw [if_pos ⟨h0, decide_eq_true h4⟩, Nat.testBit_two_pow_self, h4]; rfl
        · rw [if_neg (by simp [h4]), Nat.zero_testBit]; show 0 = _; omega
      · rw [if_neg h0]
        rcases hk.1 with h | h
        · exact absurd h h0
        · rw [testBit0] at h; simp at h; omega
    rw [num, h1, h2, List.length_cons, mod_two]
theorem num_half (w : Nat) (q : Int) (L : List Int) : (num w (q :: L)) / 2 = num w L ∧ num w (q :: L) % 2 = at_ w q := by
  rw [num]; have := at_lt w q; omega
theorem put_num (w : Nat) (L : List Int) : put (num w L) L = w &&& bs L := by
  induction L with
  | nil => simp [put, bs]
  | cons q L ih =>
    obtain ⟨h1, h2⟩ := num_half w q L
    rw [put, h1, ih, bs, Nat.and_or_distrib_left]
    congr 1
    unfold to_; rw [testBit0, h2]; unfold at_
    by_cases h0 : 0 ≤ q
    · rw [if_pos h0, if_pos h0]
      apply Nat.eq_of_testBit_eq; intro j
      rw [Nat.testBit_and, Nat.testBit_two_pow]
      by_cases hj : q.toNat = j
      · subst hj; unfold bit1; cases w.testBit q.toNat <;> simp [h0, Nat.testBit_two_pow_self]
      · unfold bit1; cases w.testBit q.toNat <;> simp [h0, hj, Nat.testBit_two_pow]
    · rw [if_neg (by simp [h0]), if_neg h0]; simp
theorem ok_num (w : Nat) (L : List Int) : ok (num w L) L = true := by
  induction L with
  | nil => rfl
  | cons q L ih =>
    obtain ⟨h1, h2⟩ := num_half w q L
    rw [ok, h1, ih, testBit0, h2]; unfold at_
    by_cases h0 : 0 ≤ q
    · simp [h0]
    · rw [if_neg h0]; simp
theorem put_sub (n : Nat) (L : List Int) (j : Nat) (h : (put n L).testBit j = true) : (bs L).testBit j = true := by
  induction L generalizing n with
  | nil => simp [put] at h
  | cons q L ih =>
    rw [put, Nat.testBit_or, Bool.or_eq_true] at h
    rw [bs, Nat.testBit_or, Bool.or_eq_true]
    rcases h with h | h
    · left; unfold to_ at h; split at h
      · rename_i h0; rw [if_pos h0.1]; exact h
      · simp at h
    · exact Or.inr (ih _ h)
theorem mod_half (n k : Nat) : n % 2 ^ (k + 1) / 2 = n / 2 % 2 ^ k ∧ n % 2 ^ (k + 1) % 2 = n % 2 := by
  have := mod_two n k; have h : n % 2 < 2 := Nat.mod_lt _ (by decide); omega
theorem put_mod (n : Nat) (L : List Int) : put (n % 2 ^ L.length) L = put n L := by
  induction L generalizing n with
  | nil => rfl
  | cons q L ih =>
    obtain ⟨h1, h2⟩ := mod_half n L.length
    rw [put, put, List.length_cons, h1, ih]; unfold to_; rw [testBit0, testBit0, h2]
theorem ok_mod (n : Nat) (L : List Int) : ok (n % 2 ^ L.length) L = ok n L := by
  induction L generalizing n with
  | nil => rfl
  | cons q L ih =>
    obtain ⟨h1, h2⟩ := mod_half n L.length
    rw [ok, ok, List.length_cons, h1, ih, testBit0, testBit0, h2]
theorem put_le (n : Nat) (L : List Int) (h : ∀ q ∈ L, q < 32) : put n L < 4294967296 := by
  induction L generalizing n with
  | nil => simp [put]
  | cons q L ih =>
    rw [put]
    refine Nat.or_lt_two_pow (n := 32) ?_ (ih _ fun q' hq' => h q' (List.mem_cons_of_mem _ hq'))
    have h1 := h q (List.mem_cons_self)
    unfold to_; split
    · exact Nat.pow_lt_pow_right (by decide) (by omega)
    · decide
theorem bs_bit (L : List Int) (q : Int) (hq : q ∈ L) (h0 : 0 ≤ q) : (bs L).testBit q.toNat = true := by
  induction L with
  | nil => simp at hq
  | cons p L ih =>
    rw [bs, Nat.testBit_or, Bool.or_eq_true]
    rcases List.mem_cons.1 hq with rfl | h
    · left; rw [if_pos h0, Nat.testBit_two_pow_self]
    · exact Or.inr (ih h)
/-- A word whose other bits are as they may be. -/
theorem num_mix (L : List Int) (n w : Nat) (hd : nd L = true) (hk : ok n L = true) (hs : bs L < 4294967296) : num (put n L ||| (w &&& (4294967295 - bs L))) L = n % 2 ^ L.length := by
  refine num_put L _ n hd hk fun q hq h0 => ?_
  rw [Nat.testBit_or, Nat.testBit_and, show (4294967295 - bs L) = 2 ^ 32 - (bs L + 1) by omega, Nat.testBit_two_pow_sub_succ (by exact hs), bs_bit L q hq h0]
  simp
theorem put_out (L : List Int) (n : Nat) (hs : bs L < 4294967296) : put n L &&& (4294967295 - bs L) = 0 := by
  apply Nat.eq_of_testBit_eq; intro j
  rw [Nat.testBit_and, show (4294967295 - bs L) = 2 ^ 32 - (bs L + 1) by omega, Nat.testBit_two_pow_sub_succ (by exact hs), Nat.zero_testBit]
  cases h : (put n L).testBit j
  · rfl
  · rw [put_sub n L j h]; simp
/-- The highest place. -/
theorem num_top (w : Nat) (L : List Int) (q : Int) : num w (L ++ [q]) = num w L + 2 ^ L.length * at_ w q := by
  rw [num_app]; simp [num]
/-- From above, place for place. -/
theorem num_rev (w : Nat) (q : Int) (D : List Int) : num w (D ++ [q]).reverse = at_ w q + 2 * num w D.reverse := by
  rw [List.reverse_append]; rfl
end Go.Proofs.Ytkolnfhaoklmaaa.QF
