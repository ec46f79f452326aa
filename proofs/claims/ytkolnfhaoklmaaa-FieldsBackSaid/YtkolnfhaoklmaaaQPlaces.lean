/- The document's numbers, words and bounds, and the program's, in terms of lists of places. -/
import Derived.Test.YtkolnfhaoklmaaaQFields
set_option linter.unusedSimpArgs false
set_option linter.unusedVariables false
namespace Go.Proofs.Ytkolnfhaoklmaaa.QF
open Go.RowKit Go.Proofs.Ytkolnfhaoklmaaa.Q Go.Proofs.YtkolnfhaoklmaaaW.PrintWords Go.Proofs.YtkolnfhaoklmaaaW.PrintLast Go.Proofs.YtkolnfhaoklmaaaW.PrintMore Go.Proofs.Ytkolnfhaoklmaaa.Bv

theorem rbit_eq (w j : Nat) (hw : w < 4294967296) (hj : j < 32) : mezzanineref08_bit.f (w : Int) (j : Int) = some ((bit1 (w.testBit j) : Nat) : Int) := by
  unfold mezzanineref08_bit.f
  rw [u64w (by omega) (by omega), if_pos (by omega), shr32 _ _ (by omega), show (1 : Int) = ((1 : Nat) : Int) from rfl,
    u32_and_nat _ _ (Nat.lt_of_le_of_lt (Nat.div_le_self _ _) hw) (by decide), Nat.and_one_is_mod, bit1_mod, w64 (by omega) (by omega)]
/-! ### the number -/
theorem rnum_loop (f : Int) (w : Nat) (hw : w < 4294967296) (K : Nat) : ∀ (rest done : List Int), (done ++ rest).length ≤ 32 → (∀ q ∈ rest, q < 32) →
    mezzanineref08_Number.l0 (rest.length + K) f (w : Int) (done ++ rest) ((num w done.reverse : Nat) : Int) (done.length : Int)
      = mezzanineref08_Number.l0 K f (w : Int) (done ++ rest) ((num w (done ++ rest).reverse : Nat) : Int) ((done ++ rest).length : Int) := by
  intro rest; induction rest with
  | nil => intro done _ _; simp
  | cons q r ih =>
    intro done hl hq
    have h := ih (done ++ [q]) (by simpa using hl) (fun q' h' => hq q' (List.mem_cons_of_mem _ h'))
    have hlen : done.length < (done ++ q :: r).length := by simp
    rw [num_rev, show (done ++ [q]).length = done.length + 1 by simp, show done ++ [q] ++ r = done ++ q :: r by simp] at h
    have hn := num_lt w done.reverse
    have hp := pow32 (show done.reverse.length ≤ 32 by simp; omega)
    have hq32 := hq q (List.mem_cons_self)
    rw [List.length_cons, show r.length + 1 + K = (r.length + K) + 1 by omega, mezzanineref08_Number.l0, if_pos (by omega), if_pos (by omega), rdi_at, ← h]
    have hat : ∀ (a : Nat), at_ w q = a → (a < 2) := fun a h => h ▸ at_lt w q
    by_cases h0 : 0 ≤ q
    · obtain ⟨j, rfl⟩ := Int.eq_ofNat_of_zero_le h0
      rw [if_pos (by omega), rbit_eq w j hw (by omega)]; simp only [Option.bind_some]
      have e : at_ w (j : Int) = bit1 (w.testBit j) := by unfold at_; rw [if_pos h0, Int.toNat_natCast]
      rw [e]
      rw [add1 _ (by omega), w64 (a := 2 * _) (by omega) (by omega), w64 (by omega) (by omega)]
      cases w.testBit j
      · rw [show bit1 false = 0 from rfl, if_neg (by decide)]; congr 1; omega
      · rw [show bit1 true = 1 from rfl, if_pos (by decide)]; congr 1; omega
    · have e : at_ w q = 0 := by unfold at_; rw [if_neg h0]
      rw [if_neg (by omega), e, add1 _ (by omega), w64 (by omega) (by omega)]; congr 1; omega
theorem top_num (w : Nat) (D : List Int) (W : Nat) (hl : (D ++ [31]).length = W) : (2 ^ (W - 1) ≤ num w (D ++ [31])) ↔ w.testBit 31 = true := by
  have hD : W - 1 = D.length := by rw [← hl]; simp
  rw [num_top, hD]
  have hn := num_lt w D
  have e : at_ w 31 = bit1 (w.testBit 31) := rfl
  rw [e]
  cases w.testBit 31 <;> simp [bit1] <;> omega
theorem rnumber_eq {f ps s b W} (g : Good f ps s b W) (k w : Nat) (hw : w < 4294967296) : mezzanineref08_Number.f (k + 50) f (w : Int) = some (sgx b W (num w (places ps s)), true) := by
  have hP := g.plen; have hW0 := g.W0; have hW1 := g.W1
  have hlt := num_lt w (places ps s)
  rw [hP] at hlt
  have hp := pow32 hW1
  unfold mezzanineref08_Number.f
  rw [g.plc]; simp only [Option.bind_some]
  rw [if_neg (by rw [List.length_reverse, hP]; omega)]
  have e := rnum_loop f w hw (k + 50 - W) (places ps s).reverse [] (by rw [List.nil_append, List.length_reverse, hP]; exact hW1) (fun q hq => (g.rge q (List.mem_reverse.1 hq)).2)
  rw [List.length_reverse, hP, show W + (k + 50 - W) = k + 50 by omega, List.nil_append, List.reverse_reverse, List.length_reverse, hP] at e
  refine Eq.trans (Eq.trans ?_ e) ?_
  · rfl
  rw [show k + 50 - W = (k + 46 - W) + 1 + 1 + 1 + 1 by omega, mezzanineref08_Number.l0, if_neg (by rw [List.length_reverse, hP]; omega), g.sgn]; simp only [Option.bind_some]
  cases hb : b
  · rw [if_neg (by decide), mezzanineref08_Number.j1, if_neg (by decide)]; unfold sgx; simp
  · obtain ⟨D, hD⟩ := g.top hb
    have ht := top_num w D W (by rw [← hD]; exact hP)
    rw [← hD] at ht
    rw [if_pos rfl, show (31 : Int) = ((31 : Nat) : Int) from rfl, rbit_eq w 31 hw (by decide)]; simp only [Option.bind_some]
    rw [mezzanineref08_Number.j1]
    unfold sgx
    cases h31 : w.testBit 31
    · rw [if_neg (by decide), if_neg (by rw [ht, h31]; decide)]
    · have h2 := ht.2 h31
      rw [if_pos (by decide), mezzanineref08_Number.l1, if_pos (by decide), List.length_reverse, hP, u64w (by omega) (by omega), if_pos (by omega), shli W hW1, w64 (by omega) (by omega),
        mezzanineref08_Number.l1, show wrap64 (0 + 1) = 1 by rw [w64 (by decide) (by decide)]; rfl, if_neg (by decide), if_pos ⟨rfl, h2⟩]

/-! ### bounds -/
def inr (b : Bool) (W : Nat) (n : Int) : Bool := if b = true then decide (-((2 ^ (W - 1) : Nat) : Int) ≤ n ∧ n < ((2 ^ (W - 1) : Nat) : Int)) else decide (0 ≤ n ∧ n < ((2 ^ W : Nat) : Int))
/-- A number's word. -/
def wd (n : Int) : Nat := (n % 18446744073709551616).toNat
theorem wd_lt (n : Int) : wd n < 18446744073709551616 := by unfold wd; omega
theorem wd_S (y : BitVec 64) : wd (S y) = y.toNat := by
  unfold wd
  have h := ofInt_S y
  have h2 := congrArg BitVec.toNat h
  rw [BitVec.toNat_ofInt] at h2
  have e : ((2 ^ 64 : Nat) : Int) = 18446744073709551616 := rfl
  rw [e] at h2; exact h2
theorem wd_nat (n : Int) : n % 18446744073709551616 = (wd n : Int) := by unfold wd; omega
theorem nbit (n : Int) (h0 : -9223372036854775808 ≤ n) (h1 : n < 9223372036854775808) (j : Nat) (hj : j < 64) :
    (Go.bits .and .i64 (shr .i64 n (j : Int)) 1 = 1) ↔ (wd n).testBit j = true := by
  obtain ⟨y, rfl⟩ := S_of h0 h1
  rw [wd_S, shr_i64, Int.toNat_natCast, and_i64, ofInt_S, show (1 : Int) = S 1#64 from rfl, ofInt_S, S_inj, BitVec.testBit_toNat]
  constructor
  · intro h
    have h2 := congrArg (fun z : BitVec 64 => z.getLsbD 0) h
    simp only [BitVec.getLsbD_and, BitVec.getLsbD_sshiftRight, Nat.add_zero, Nat.zero_add] at h2
    simpa [hj] using h2
  · intro h
    apply BitVec.eq_of_getLsbD_eq; intro i hi
    rw [BitVec.getLsbD_and, BitVec.getLsbD_sshiftRight]
    by_cases h0 : i = 0
    · subst h0; simpa [hj] using h
    · have : (1#64).getLsbD i = false := by rw [BitVec.getLsbD_one]; simp [h0]
      rw [this, Bool.and_false]
theorem nlow (n : Int) (h0 : -9223372036854775808 ≤ n) (h1 : n < 9223372036854775808) (s : Nat) (hs : s ≤ 12) :
    (Go.bits .and .i64 n (wrap64 ((shl .i64 1 (s : Int)) - 1)) != 0) = !decide (wd n % 2 ^ s = 0) := by
  obtain ⟨y, rfl⟩ := S_of h0 h1
  have hp := pow32 (show s ≤ 32 by omega)
  rw [wd_S, shli s (by omega), w64 (by omega) (by omega), and_i64, ofInt_S]
  have e : (BitVec.ofInt 64 (((2 ^ s : Nat) : Int) - 1)).toNat = 2 ^ s - 1 := by
    rw [BitVec.toNat_ofInt, show ((2 ^ 64 : Nat) : Int) = 18446744073709551616 from rfl]; omega
  have e2 : (y &&& BitVec.ofInt 64 (((2 ^ s : Nat) : Int) - 1)).toNat = y.toNat % 2 ^ s := by
    rw [BitVec.toNat_and, e, Nat.and_two_pow_sub_one_eq_mod]
  rw [Bool.eq_iff_iff, bne_iff_ne, Bool.not_eq_true', decide_eq_false_iff_not, ← e2, show (0 : Int) = S 0#64 from rfl, Ne, S_inj, ← BitVec.toNat_inj]; rfl
theorem fits_eq {f ps s b W} (g : Good f ps s b W) (k : Nat) (n : Int) (h0 : -9223372036854775808 ≤ n) (h1 : n < 9223372036854775808) :
    fields_Fits.f (k + 20) f n = some (decide (wd n % 2 ^ s = 0) && inr b W n) := by
  unfold fields_Fits.f
  rw [g.shape]; simp only [Option.bind_some]
  have hn := g.ne; have hW0 := g.W0; have hW1 := g.W1
  rw [if_neg (by omega), if_pos (by omega), nlow n h0 h1 s g.s1, show k + 20 = (k + 13 + 6) + 1 by omega, fields_Fits.j0, g.size]
  simp only [Option.bind_some]
  have hp := pow32 (show W - 1 ≤ 32 by omega)
  rw [show wrap64 ((W : Int) - 1) = ((W - 1 : Nat) : Int) by rw [w64 (by omega) (by omega)]; omega, shli _ (by omega), shli _ hW1, shlm _ (by omega)]
  by_cases hz : wd n % 2 ^ s = 0
  · rw [decide_eq_true hz, if_neg (by decide), Bool.true_and]; unfold inr
    cases b
    · rw [if_neg (show ¬(false = true) by decide), if_neg (show ¬(false = true) by decide)]
      by_cases hg : n ≥ 0
      · rw [if_pos hg, if_pos (by omega)]; congr 2; rw [eq_iff_iff]; omega
      · rw [if_neg hg, decide_eq_false (by omega)]
    · rw [if_pos rfl, if_pos rfl, if_pos (by omega)]
      by_cases hg : n ≥ -((2 ^ (W - 1) : Nat) : Int)
      · rw [if_pos hg]; congr 2; rw [eq_iff_iff]; omega
      · rw [if_neg hg, decide_eq_false (by omega)]
  · rw [decide_eq_false hz, if_pos (by decide)]; rfl
theorem rfits_loop (n : Int) (h0 : -9223372036854775808 ≤ n) (h1 : n < 9223372036854775808) (K : Nat) : ∀ (rest done : List Int), (done ++ rest).length ≤ 32 → ok (wd n / 2 ^ rest.length) done.reverse = true →
    mezzanineref08_Fits.l0 (rest.length + K + 1) n (done ++ rest) (done.length : Int) = some (ok (wd n) (done ++ rest).reverse) := by
  intro rest; induction rest with
  | nil =>
    intro done _ hk
    rw [mezzanineref08_Fits.l0, if_neg (by simp)]; simp at hk ⊢; exact hk
  | cons q r ih =>
    intro done hl hk
    have h := ih (done ++ [q]) (by simpa using hl)
    have hlen : (done ++ q :: r).length = done.length + r.length + 1 := by simp; omega
    rw [show (done ++ [q]).length = done.length + 1 by simp, show done ++ [q] ++ r = done ++ q :: r by simp, show (done ++ [q]).reverse = q :: done.reverse by simp, ok] at h
    rw [List.length_cons, div_div_two] at hk
    rw [hk, Bool.and_true] at h
    rw [hlen] at hl
    rw [List.length_cons, show r.length + 1 + K + 1 = (r.length + K + 1) + 1 by omega, mezzanineref08_Fits.l0, if_pos (by omega), if_pos (by omega), rdi_at, hlen, add1 _ (by omega),
      show wrap64 (wrap64 (((done.length + r.length + 1 : Nat) : Int) - 1) - (done.length : Int)) = ((r.length : Nat) : Int) by
        rw [w64 (a := ((done.length + r.length + 1 : Nat) : Int) - 1) (by omega) (by omega), w64 (by omega) (by omega)]; omega,
      u64w (by omega) (by omega)]
    have hb : (wd n / 2 ^ r.length).testBit 0 = (wd n).testBit r.length := by rw [Nat.testBit_div_two_pow, Nat.zero_add]
    rw [hb] at h
    by_cases hq : q < 0
    · rw [if_pos hq, if_pos (by omega)]
      by_cases hbit : (wd n).testBit r.length = true
      · rw [if_pos ((nbit n h0 h1 _ (by omega)).2 hbit)]
        have e : ok (wd n) (done ++ q :: r).reverse = false := by
          rw [List.reverse_append, List.reverse_cons, List.append_assoc, ok_app, List.length_reverse, List.singleton_append, ok, hb, hbit]
          rw [decide_eq_false (by omega)]; simp
        rw [e]
      · rw [if_neg (fun h' => hbit ((nbit n h0 h1 _ (by omega)).1 h'))]
        exact h (by rw [Bool.not_eq_true] at hbit; rw [hbit]; simp)
    · rw [if_neg hq]
      exact h (by rw [decide_eq_true (by omega)]; simp)
theorem ok_places (ps : List S44) (s N : Nat) : ok N (places ps s) = decide (N % 2 ^ s = 0) := by
  unfold places; rw [ok_app, ok_reps]
  have : ∀ (ps : List S44) (N : Nat), ok N (mlist ps) = true := by
    intro ps; induction ps with
    | nil => intro N; rfl
    | cons p r ih => intro N; rw [mlist, ok_app, ih, ok_rng]; rfl
  rw [this, Bool.and_true]
theorem rfits_eq {f ps s b W} (g : Good f ps s b W) (k : Nat) (n : Int) (h0 : -9223372036854775808 ≤ n) (h1 : n < 9223372036854775808) :
    mezzanineref08_Fits.f (k + 50) f n = some (decide (wd n % 2 ^ s = 0) && inr b W n) := by
  have hP := g.plen; have hW0 := g.W0; have hW1 := g.W1
  have e := rfits_loop n h0 h1 (k + 47 - W) (places ps s).reverse [] (by rw [List.nil_append, List.length_reverse, hP]; exact hW1) rfl
  rw [List.length_reverse, hP, List.nil_append, List.reverse_reverse, ok_places] at e
  have hp := pow32 (show W - 1 ≤ 32 by omega)
  have hp1 := pow32 hW1
  have fin : ∀ (lo hi : Int) (t : Bool), (t = decide (lo ≤ n ∧ n ≤ hi)) → mezzanineref08_Fits.j0 (k + 50) n (places ps s).reverse lo hi = some (decide (wd n % 2 ^ s = 0) && t) := by
    intro lo hi t ht
    rw [show k + 50 = (W + (k + 47 - W) + 1) + 1 + 1 by omega, mezzanineref08_Fits.j0, mezzanineref08_Fits.j1, mezzanineref08_Fits.j1]
    by_cases c1 : n < lo
    · rw [if_pos c1, if_pos rfl, ht, decide_eq_false (show ¬(lo ≤ n ∧ n ≤ hi) by omega), Bool.and_false]
    · rw [if_neg c1]
      by_cases c2 : n > hi
      · rw [decide_eq_true c2, if_pos rfl, ht, decide_eq_false (show ¬(lo ≤ n ∧ n ≤ hi) by omega), Bool.and_false]
      · rw [decide_eq_false c2, if_neg (by decide), ht, decide_eq_true (show (lo ≤ n ∧ n ≤ hi) by omega), Bool.and_true]; exact e
  unfold mezzanineref08_Fits.f
  rw [show k + 50 = (k + 10) + 40 by omega, g.plc, show (k + 10) + 40 = k + 50 by omega]; simp only [Option.bind_some]
  rw [List.length_reverse, hP, if_neg (by omega), u64w (by omega) (by omega), if_pos (by omega), g.sgn]; simp only [Option.bind_some]
  have eW : wrap64 ((W : Int) - 1) = ((W - 1 : Nat) : Int) := by rw [w64 (by omega) (by omega)]; omega
  unfold inr
  cases b
  · rw [if_neg (show ¬(false = true) by decide), if_neg (show ¬(false = true) by decide), shli _ hW1, w64 (by omega) (by omega)]; refine fin _ _ _ ?_; congr 1; rw [eq_iff_iff]; omega
  · rw [if_pos (show true = true from rfl), if_pos (show true = true from rfl), eW, u64w (by omega) (by omega), if_pos (by omega), shli _ (by omega), w64 (by omega) (by omega), w64 (by omega) (by omega)]; refine fin _ _ _ ?_; congr 1; rw [eq_iff_iff]; omega

/-! ### the word -/
theorem put_lt32 {f ps s b W} (g : Good f ps s b W) (n : Nat) : put n (places ps s) < 4294967296 := put_le n _ fun q hq => (g.rge q hq).2
theorem rput_loop (n : Int) (h0 : -9223372036854775808 ≤ n) (h1 : n < 9223372036854775808) (K : Nat) : ∀ (rest done : List Int), (done ++ rest).length ≤ 32 → (∀ q ∈ done ++ rest, q < 32) →
    mezzanineref08_Put.l0 (rest.length + K + 1) n (done ++ rest) ((put (wd n / 2 ^ rest.length) done.reverse : Nat) : Int) (done.length : Int) = some (((put (wd n) (done ++ rest).reverse : Nat) : Int), true) := by
  intro rest; induction rest with
  | nil =>
    intro done _ _
    rw [mezzanineref08_Put.l0, if_neg (by simp)]; simp
  | cons q r ih =>
    intro done hl hr
    have h := ih (done ++ [q]) (by simpa using hl) (by simpa using hr)
    have hlen : (done ++ q :: r).length = done.length + r.length + 1 := by simp; omega
    rw [show (done ++ [q]).length = done.length + 1 by simp, show done ++ [q] ++ r = done ++ q :: r by simp, show (done ++ [q]).reverse = q :: done.reverse by simp, put] at h
    rw [hlen] at hl
    have hlt : put (wd n / 2 ^ r.length / 2) done.reverse < 4294967296 := put_le _ _ fun q' hq' => hr q' (List.mem_append_left _ (List.mem_reverse.1 hq'))
    have hq32 := hr q (by simp)
    rw [List.length_cons, show r.length + 1 + K + 1 = (r.length + K + 1) + 1 by omega, mezzanineref08_Put.l0, if_pos (by omega), if_pos (by omega), rdi_at, hlen, add1 _ (by omega),
      show wrap64 (wrap64 (((done.length + r.length + 1 : Nat) : Int) - 1) - (done.length : Int)) = ((r.length : Nat) : Int) by
        rw [w64 (a := ((done.length + r.length + 1 : Nat) : Int) - 1) (by omega) (by omega), w64 (by omega) (by omega)]; omega,
      u64w (a := ((r.length : Nat) : Int)) (by omega) (by omega), div_div_two]
    have hb : (wd n / 2 ^ r.length).testBit 0 = (wd n).testBit r.length := by rw [Nat.testBit_div_two_pow, Nat.zero_add]
    unfold to_ at h; rw [hb] at h
    by_cases hq : q ≥ 0
    · rw [if_pos hq, if_pos (by omega)]
      by_cases hbit : (wd n).testBit r.length = true
      · obtain ⟨j, rfl⟩ := Int.eq_ofNat_of_zero_le hq
        rw [if_pos ⟨hq, hbit⟩, Int.toNat_natCast] at h
        have hj := Nat.pow_lt_pow_right (show 1 < 2 by decide) (show j < 32 by omega)
        rw [if_pos ((nbit n h0 h1 _ (by omega)).2 hbit), u64w (a := (j : Int)) (by omega) (by omega), if_pos hq, show (1 : Int) = ((1 : Nat) : Int) from rfl, shl32 1 j (by omega), Nat.one_mul,
          Nat.mod_eq_of_lt (by simpa using hj), u32_or_nat _ _ hlt (by simpa using hj), Nat.or_comm]
        exact h
      · rw [if_neg (fun h' => hbit h'.2), Nat.zero_or] at h
        rw [if_neg (fun h' => hbit ((nbit n h0 h1 _ (by omega)).1 h'))]
        exact h
    · rw [if_neg (fun h' => hq h'.1), Nat.zero_or] at h
      rw [if_neg hq]
      exact h
theorem rput_eq {f ps s b W} (g : Good f ps s b W) (k : Nat) (n : Int) (h0 : -9223372036854775808 ≤ n) (h1 : n < 9223372036854775808) :
    mezzanineref08_Put.f (k + 50) f n = some (if (decide (wd n % 2 ^ s = 0) && inr b W n) = true then ((put (wd n) (places ps s) : Nat) : Int) else 0, (decide (wd n % 2 ^ s = 0) && inr b W n)) := by
  have hP := g.plen; have hW1 := g.W1
  unfold mezzanineref08_Put.f
  rw [rfits_eq g k n h0 h1]; simp only [Option.bind_some]
  cases hz : (decide (wd n % 2 ^ s = 0) && inr b W n)
  · rw [if_neg (show ¬(false = true) by decide), if_neg (show ¬(false = true) by decide)]
  · rw [if_pos (show true = true from rfl), if_pos (show true = true from rfl), show k + 50 = (k + 10) + 40 by omega, g.plc, show (k + 10) + 40 = k + 50 by omega]; simp only [Option.bind_some]
    have e := rput_loop n h0 h1 (k + 49 - W) (places ps s).reverse [] (by rw [List.nil_append, List.length_reverse, hP]; exact hW1) (fun q hq => (g.rge q (List.mem_reverse.1 (by simpa using hq))).2)
    rw [List.length_reverse, hP, List.nil_append, List.reverse_reverse, show W + (k + 49 - W) + 1 = k + 50 by omega, List.reverse_nil, show ((put (wd n / 2 ^ W) [] : Nat) : Int) = 0 from rfl, show ((([] : List Int).length : Nat) : Int) = 0 from rfl] at e
    exact e
theorem mlist_drop (ps : List S44) (n : Nat) (h : n < ps.length) : mlist (ps.drop n) = mlist (ps.drop (n + 1)) ++ rng (lp ps[n]) (kp ps[n]) := by
  rw [List.drop_eq_getElem_cons h, mlist]
theorem mlist_mem (ps : List S44) (hg : ∀ p ∈ ps, gp p) : ∀ q ∈ mlist ps, q < 32 := by
  induction ps with
  | nil => intro q hq; simp [mlist] at hq
  | cons p r ih =>
    intro q hq; rw [mlist, List.mem_append] at hq
    rcases hq with h | h
    · exact ih (fun p' h' => hg p' (List.mem_cons_of_mem _ h')) q h
    · obtain ⟨_, _, _, h4⟩ := gp_facts (hg p (List.mem_cons_self))
      have : ∀ (k l : Nat), l + k ≤ 32 → ∀ q ∈ rng l k, q < 32 := by
        intro k; induction k with
        | zero => intro l _ q hq; simp [rng] at hq
        | succ k ih2 =>
          intro l hl q hq; rw [rng] at hq
          rcases List.mem_cons.1 hq with rfl | h
          · omega
          · exact ih2 (l + 1) (by omega) q h
      exact this _ _ (by omega) q h
theorem put_loop (N : Nat) (hN : N < 18446744073709551616) (K : Nat) (ps : List S44) (s : Int) (b : Bool) (hg : ∀ p ∈ ps, gp p) : ∀ n : Nat, n ≤ ps.length → n < 1000 →
    fields_Put.l0 (n + K + 1) ((put N (mlist (ps.drop n)) : Nat) : Int) ((N / 2 ^ (mlist (ps.drop n)).length : Nat) : Int) ((n : Int) - 1) ps s b = some (((put N (mlist ps) : Nat) : Int), true) := by
  intro n; induction n with
  | zero => intro _ _; rw [fields_Put.l0, if_neg (by omega)]; simp
  | succ n ih =>
    intro hn hs
    have h := ih (by omega) (by omega)
    rw [mlist_drop ps n (by omega), put_app, put_rng, List.length_append, rng_len, Nat.pow_add, ← Nat.div_div_eq_div_mul] at h
    have hp := hg ps[n] (List.getElem_mem _)
    obtain ⟨g1, g2, g3, g4⟩ := gp_facts hp
    have hr : rd_T44 ps ((n : Nat) : Int) = ps[n] := by unfold rd_T44; rw [Int.toNat_natCast]; simp [List.getD, List.getElem?_eq_getElem (show n < ps.length by omega)]
    have hX : N / 2 ^ (mlist (ps.drop (n + 1))).length < 18446744073709551616 := Nat.lt_of_le_of_lt (Nat.div_le_self _ _) hN
    have hw : put N (mlist (ps.drop (n + 1))) < 4294967296 := put_le _ _ (mlist_mem _ fun p' h' => hg p' (List.mem_of_mem_drop h'))
    generalize (N / 2 ^ (mlist (ps.drop (n + 1))).length) = X at h hX ⊢
    generalize put N (mlist (ps.drop (n + 1))) = w at h hw ⊢
    have hk := pow32 (show kp ps[n] ≤ 32 by omega)
    have hm : X % 2 ^ kp ps[n] < 2 ^ kp ps[n] := Nat.mod_lt _ hk.2
    have hs32 : X % 2 ^ kp ps[n] * 2 ^ lp ps[n] < 4294967296 := by
      have h1 : X % 2 ^ kp ps[n] * 2 ^ lp ps[n] < 2 ^ kp ps[n] * 2 ^ lp ps[n] := Nat.mul_lt_mul_of_pos_right hm (Nat.two_pow_pos _)
      rw [← Nat.pow_add] at h1; exact Nat.lt_of_lt_of_le h1 (pow32 (by omega)).1
    rw [show n + 1 + K + 1 = (n + K + 1) + 1 by omega, fields_Put.l0, show ((n + 1 : Nat) : Int) - 1 = (n : Int) by omega, if_pos (by omega), if_pos (by omega), if_pos (by omega), hr, g2, if_pos (by omega), g1, if_pos (by omega),
      mask64 X _ hX (by omega), show (((X % 2 ^ kp ps[n] : Nat) : Int) % 4294967296) = ((X % 2 ^ kp ps[n] : Nat) : Int) by omega, shl32 _ _ (by omega), Nat.mod_eq_of_lt hs32, u32_or_nat _ _ hw hs32, shr64 _ _ (by omega), w64 (by omega) (by omega),
      Nat.mul_comm (X % 2 ^ kp ps[n])]
    exact h
theorem put_places (ps : List S44) (s N : Nat) : put N (places ps s) = put (N / 2 ^ s) (mlist ps) := by
  unfold places; rw [put_app, put_reps, List.length_replicate, Nat.zero_or]
theorem put_eq {f ps s b W} (g : Good f ps s b W) (k : Nat) (n : Int) (h0 : -9223372036854775808 ≤ n) (h1 : n < 9223372036854775808) :
    fields_Put.f (k + 20) f n = some (if (decide (wd n % 2 ^ s = 0) && inr b W n) = true then ((put (wd n) (places ps s) : Nat) : Int) else 0, (decide (wd n % 2 ^ s = 0) && inr b W n)) := by
  have hn := g.ne; have hf := g.few; have hs := g.s1
  unfold fields_Put.f
  rw [fits_eq g k n h0 h1]; simp only [Option.bind_some]
  cases hz : (decide (wd n % 2 ^ s = 0) && inr b W n)
  · rw [if_neg (show ¬(false = true) by decide), if_neg (show ¬(false = true) by decide)]
  · rw [if_pos (show true = true from rfl), if_pos (show true = true from rfl), g.shape]; simp only [Option.bind_some]
    have hlt : wd n / 2 ^ s < 18446744073709551616 := Nat.lt_of_le_of_lt (Nat.div_le_self _ _) (wd_lt n)
    have e := put_loop (wd n / 2 ^ s) hlt (k + 19 - ps.length) ps (s : Int) b g.pcs ps.length (by omega) (by omega)
    rw [show ps.length + (k + 19 - ps.length) + 1 = k + 20 by omega, List.drop_length, show mlist [] = [] from rfl, ← put_places] at e
    rw [if_pos (by omega), IntKind.wrap_u64, wd_nat, shr64 _ _ (by omega), w64 (by omega) (by omega)]
    rw [show put (wd n / 2 ^ s) [] = 0 from rfl, List.length_nil, Nat.pow_zero, Nat.div_one, show ((0 : Nat) : Int) = 0 from rfl] at e
    exact e
end Go.Proofs.Ytkolnfhaoklmaaa.QF
