/- The plain laws of what is taken: bits, the order, the levels. -/
import Derived.Test.YtpbodidpcbodaaaDoorINext
set_option linter.unusedSimpArgs false
set_option linter.unusedVariables false
namespace Go.Proofs.YtpbodidpcbodaaaDoor.Hx
open Go.Proofs.YtpbodidpcbodaaaDoor.Bv Go.RowKit Go.Proofs.YtpbodidpcbodaaaDoor.Q Go.Proofs.YtpbodidpcbodaaaDoorW.PrintWords Go.Proofs.YtpbodidpcbodaaaDoorW.PrintLast Go.Proofs.YtpbodidpcbodaaaDoorW.PrintMore Go.Proofs.YtpbodidpcbodaaaDoor.Rg

/-- A word's bit. -/
def g (a : Int) (i : Nat) : Bool := (BitVec.ofInt 64 a).getLsbD i
theorem g_and (a b : Int) (i : Nat) : g (Go.bits .and .u64 a b) i = (g a i && g b i) := by unfold g; rw [and_u64, ofInt_U, BitVec.getLsbD_and]
theorem g_or (a b : Int) (i : Nat) : g (Go.bits .or .u64 a b) i = (g a i || g b i) := by unfold g; rw [or_u64, ofInt_U, BitVec.getLsbD_or]
theorem g_andNot (a b : Int) (i : Nat) (hi : i < 64) : g (Go.bits .andNot .u64 a b) i = (g a i && !g b i) := by
  unfold g; rw [andNot_u64, ofInt_U, BitVec.getLsbD_and, BitVec.getLsbD_not]; simp [hi]
theorem g_ext (a b : Int) (ha : 0 ≤ a ∧ a < 18446744073709551616) (hb : 0 ≤ b ∧ b < 18446744073709551616) (h : ∀ i, i < 64 → g a i = g b i) : a = b := by
  rw [← U_ofInt ha.1 ha.2, ← U_ofInt hb.1 hb.2, U_inj]
  exact BitVec.eq_of_getLsbD_eq h
theorem shr_bit (a : Int) (ha : 0 ≤ a ∧ a < 18446744073709551616) (i : Nat) (hi : i < 64) : Go.bits .and .u64 (shr .u64 a (i : Int)) 1 = if g a i = true then 1 else 0 := by
  obtain ⟨x, rfl⟩ := U_of ha.1 ha.2
  rw [shr_u64, show (1 : Int) = U 1#64 from rfl, and_u64, ofInt_U, ofInt_U]
  unfold g; rw [ofInt_U, Int.toNat_natCast]
  have : (x >>> i) &&& 1#64 = if x.getLsbD i = true then 1#64 else 0#64 := by
    apply BitVec.eq_of_getLsbD_eq
    intro j hj
    by_cases h : x.getLsbD i = true
    · rw [if_pos h]
      rcases Nat.eq_zero_or_pos j with rfl | h0
      · simp [h]
      · simp [BitVec.getLsbD_one, show ¬ j = 0 by omega]
    · rw [if_neg h]
      rcases Nat.eq_zero_or_pos j with rfl | h0
      · simp [Bool.not_eq_true _ ▸ h]
      · simp [BitVec.getLsbD_one, show ¬ j = 0 by omega]
  rw [this]; split <;> rfl
theorem onI_bit (a : Int) (ha : 0 ≤ a ∧ a < 18446744073709551616) (i : Nat) (hi : i < 64) : onI a (i : Int) = g a i := by
  unfold onI; rw [shr_bit a ha i hi]; cases g a i <;> rfl
theorem g_pow (i j : Nat) (hi : i < 64) (hj : j < 64) : g ((2 ^ i : Nat) : Int) j = decide (i = j) := by
  unfold g
  rw [BitVec.ofInt_natCast, BitVec.getLsbD_ofNat, Nat.testBit_two_pow]; simp [hj]

/-- The order in which interrupts are taken: the named ones, then all from below. -/
def ordN : List Nat := [11, 3, 7, 9, 1, 5, 12, 10, 2, 6]
def allN : List Nat := ordN ++ List.range 64
def pickN (x : Int) : Option Nat := allN.find? (g x)
theorem allN_lt : ∀ i ∈ allN, i < 64 := by decide
theorem allN_mem (i : Nat) (h : i < 64) : i ∈ allN := List.mem_append.2 (.inr (List.mem_range.2 h))
theorem ordI_nat : ∀ k, k < 10 → ordI k = (ordN.getD k 0 : Nat) ∧ ordN.getD k 0 < 64 ∧ mskI k = ((2 ^ (ordN.getD k 0) : Nat) : Int) := by decide
theorem firstTo_find (x : Int) (hx : 0 ≤ x ∧ x < 18446744073709551616) : ∀ k, k ≤ 10 → firstTo x k = ((ordN.take k).find? (g x)).map (fun i : Nat => (i : Int))
  | 0, _ => rfl
  | k + 1, hk => by
    obtain ⟨h1, h2, _⟩ := ordI_nat k (by omega)
    have e : ordN.take (k + 1) = ordN.take k ++ [ordN.getD k 0] := by
      rw [List.take_add_one]; congr 1
      rw [List.getD_eq_getElem?_getD, List.getElem?_eq_getElem (show k < ordN.length by show k < 10; omega)]; rfl
    show (firstTo x k).or _ = _
    rw [firstTo_find x hx k (by omega), e, List.find?_append, h1, onI_bit x hx _ h2]
    cases hf : (ordN.take k).find? (g x) with
    | some a => rfl
    | none =>
      generalize ordN.getD k 0 = q at *
      cases hg : g x q <;> simp [List.find?_cons, hg]
theorem leftTo_same (x : Int) (hx : 0 ≤ x ∧ x < 18446744073709551616) (h : firstTo x 10 = none) : ∀ k, k ≤ 10 → leftTo x k = x
  | 0, _ => rfl
  | k + 1, hk => by
    obtain ⟨h1, h2, h3⟩ := ordI_nat k (by omega)
    have hb : g x (ordN.getD k 0) = false := by
      rw [firstTo_find x hx 10 (Nat.le_refl _)] at h
      have hn := Option.map_eq_none_iff.1 h
      have := List.find?_eq_none.1 hn (ordN.getD k 0) (by
        rw [List.getD_eq_getElem?_getD, List.getElem?_eq_getElem (show k < ordN.length by show k < 10; omega)]
        exact List.getElem_mem _)
      simpa using this
    show Go.bits .andNot .u64 (leftTo x k) (mskI k) = x
    rw [leftTo_same x hx h k (by omega), h3]
    refine g_ext _ _ (u64_range_andNot _ _) hx (fun i hi => ?_)
    rw [g_andNot _ _ _ hi, g_pow _ _ h2 hi]
    generalize ordN.getD k 0 = q at *
    by_cases e : q = i
    · subst e; rw [hb]; rfl
    · simp [e]
theorem g_nat (n i : Nat) (hn : n < 18446744073709551616) (hi : i < 64) : g (n : Int) i = n.testBit i := by
  unfold g; rw [BitVec.ofInt_natCast, BitVec.getLsbD_ofNat]; simp [hi]
theorem ctz_find (n : Nat) (hn : n < 18446744073709551616) (h0 : n ≠ 0) : (List.range 64).find? (g (n : Int)) = some (Lib.ctz 64 n) := by
  obtain ⟨m, hm, hc⟩ := Lib.ctzFrom_spec 64 n (by omega) hn
  have e : Lib.ctz 64 n = Lib.ctzFrom 64 n := by unfold Lib.ctz; rw [if_neg h0]
  rw [e]
  generalize Lib.ctzFrom 64 n = c at *
  rw [List.find?_eq_some_iff_append]
  have hbit : ∀ i, i < 64 → g (n : Int) i = (decide (c ≤ i) && (2 * m + 1).testBit (i - c)) := fun i hi => by
    rw [g_nat n i hn hi, hm, Nat.testBit_two_pow_mul]
  refine ⟨by rw [hbit c hc]; simp [Nat.testBit_zero], List.range c, (List.range 64).drop (c + 1), ?_, fun a ha => ?_⟩
  · have h1 := List.take_append_drop c (List.range 64)
    rw [List.take_range, Nat.min_eq_left (by omega), List.drop_eq_getElem_cons (by simpa using hc), List.getElem_range] at h1
    exact h1.symm
  · have := List.mem_range.1 ha
    rw [hbit a (by omega)]; simp; omega
theorem pick_find (x : Int) (hx : 0 ≤ x ∧ x < 18446744073709551616) : pickV x = (pickN x).map (fun i : Nat => (i : Int)) := by
  unfold pickV pickN allN
  rw [List.find?_append, firstTo_find x hx 10 (Nat.le_refl _), show ordN.take 10 = ordN from rfl]
  cases hf : ordN.find? (g x) with
  | some a => rfl
  | none =>
    have hl := leftTo_same x hx (by rw [firstTo_find x hx 10 (Nat.le_refl _), show ordN.take 10 = ordN from rfl, hf]; rfl) 10 (Nat.le_refl _)
    rw [hl]
    obtain ⟨n, rfl⟩ := Int.eq_ofNat_of_zero_le hx.1
    by_cases h0 : n = 0
    · subst h0
      have : (List.range 64).find? (g (0 : Nat)) = none := List.find?_eq_none.2 (fun i hi => by rw [g_nat 0 i (by decide) (List.mem_range.1 hi)]; simp)
      rw [this]; rfl
    · rw [if_neg (by omega), ctz_find n (by omega) h0, Int.toNat_natCast]; rfl
theorem pickN_some {x : Int} {n : Nat} (h : pickN x = some n) : n < 64 ∧ g x n = true := ⟨allN_lt n (List.mem_of_find?_eq_some h), List.find?_some h⟩
theorem pickN_none {x : Int} (hx : 0 ≤ x ∧ x < 18446744073709551616) (h : pickN x = none) : x = 0 :=
  g_ext x 0 hx (by decide) (fun i hi => by
    have := List.find?_eq_none.1 h i (allN_mem i hi)
    rw [show g 0 i = false by unfold g; simp]; simpa using this)
theorem find_fewer {p q : Nat → Bool} (n : Nat) (hq : q n = true) (hqp : ∀ i, q i = true → p i = true) : ∀ l : List Nat, l.find? p = some n → l.find? q = some n
  | [], h => by cases h
  | a :: l, h => by
    rw [List.find?_cons] at h ⊢
    cases hp : p a with
    | true =>
      rw [hp] at h
      obtain rfl : a = n := Option.some.inj h
      rw [hq]
    | false =>
      rw [hp] at h
      have : q a = false := by cases hqa : q a with
        | false => rfl
        | true => rw [hqp a hqa] at hp; cases hp
      rw [this]; exact find_fewer n hq hqp l h

/-- A level's bits. -/
theorem g_level (h : Ht) (av : Int) (i : Nat) (hi : i < 64) : g (levelV h av 0) i = (g av i && !g (h.x 40) i) ∧ g (levelV h av 1) i = (g av i && g (h.x 40) i && !g (h.x 60) i) ∧ g (levelV h av 2) i = (g av i && g (h.x 40) i && g (h.x 60) i) := by
  unfold levelV
  refine ⟨g_andNot _ _ _ hi, ?_, ?_⟩
  · show g (Go.bits .andNot .u64 _ _) i = _; rw [g_andNot _ _ _ hi, g_and]
  · show g (Go.bits .and .u64 _ _) i = _; rw [g_and, g_and]
theorem candV_some {h : Ht} {av n : Int} {k : Nat} (hc : candV h av k = some n) : openV h k = true ∧ ∃ m : Nat, n = m ∧ m < 64 ∧ g (levelV h av k) m = true ∧ pickN (levelV h av k) = some m := by
  unfold candV at hc
  by_cases ho : openV h k = true
  · rw [if_pos ho, pick_find _ (levelV_range h av k)] at hc
    obtain ⟨m, hm, rfl⟩ := Option.map_eq_some_iff.1 hc
    exact ⟨ho, m, rfl, (pickN_some hm).1, (pickN_some hm).2, hm⟩
  · rw [if_neg ho] at hc; cases hc
theorem candV_none {h : Ht} {av : Int} {k : Nat} (ho : openV h k = true) (hc : candV h av k = none) : levelV h av k = 0 := by
  unfold candV at hc
  rw [if_pos ho, pick_find _ (levelV_range h av k)] at hc
  exact pickN_none (levelV_range h av k) (Option.map_eq_none_iff.1 hc)
theorem nextO_eq (h : Ht) (av : Int) : nextO h av = ((candV h av 0).or (candV h av 1)).or (candV h av 2) := rfl
/-- Which level an interrupt comes from. -/
theorem nextO_some {h : Ht} {av n : Int} (hn : nextO h av = some n) : candV h av 0 = some n ∨ (candV h av 0 = none ∧ candV h av 1 = some n) ∨ (candV h av 0 = none ∧ candV h av 1 = none ∧ candV h av 2 = some n) := by
  rw [nextO_eq] at hn
  cases h0 : candV h av 0 with
  | some a => rw [h0] at hn; exact .inl hn
  | none =>
    rw [h0] at hn
    cases h1 : candV h av 1 with
    | some a => rw [h1] at hn; exact .inr (.inl ⟨rfl, hn⟩)
    | none => rw [h1] at hn; exact .inr (.inr ⟨rfl, rfl, hn⟩)
/-- The cause's word, and its number. -/
theorem cause_word (m : Nat) (hm : m < 64) : Go.bits .or .u64 9223372036854775808 (IntKind.u64.wrap (m : Int)) = 9223372036854775808 + (m : Int) ∧ Go.bits .andNot .u64 (9223372036854775808 + (m : Int)) 9223372036854775808 = (m : Int) ∧ Go.bits .or .u64 9223372036854775808 (m : Int) = 9223372036854775808 + (m : Int) := by
  have : ∀ m : Fin 64, Go.bits .or .u64 9223372036854775808 (IntKind.u64.wrap (m.val : Int)) = 9223372036854775808 + (m.val : Int) ∧ Go.bits .andNot .u64 (9223372036854775808 + (m.val : Int)) 9223372036854775808 = (m.val : Int) ∧ Go.bits .or .u64 9223372036854775808 (m.val : Int) = 9223372036854775808 + (m.val : Int) := by decide +kernel
  exact this ⟨m, hm⟩
end Go.Proofs.YtpbodidpcbodaaaDoor.Hx
