/- A piece that was put (bits.Put) is told (bits.Field), and all beside it stays; a piece put where it was told changes nothing; two pieces side by side are one: of any words and numbers. -/
import Derived.Test.YtkcgihpnlekfnaaQx5
import Derived.Test.YtkcgihpnlekfnaaQBits
set_option linter.unusedSimpArgs false
set_option linter.unusedVariables false
namespace Go.Proofs.Ytkcgihpnlekfnaa.Pure
open Go.RowKit Go.Proofs.Ytkcgihpnlekfnaa.Q Go.Proofs.YtkcgihpnlekfnaaW.PrintWords Go.Proofs.YtkcgihpnlekfnaaW.PrintLast Go.Proofs.YtkcgihpnlekfnaaW.PrintMore Go.Proofs.Ytkcgihpnlekfnaa.Bv Go.Proofs.Ytkcgihpnlekfnaa.QF

theorem back_one (x : BitVec 64) (lo n : Int) : putB x lo n (fieldB x lo n) = x := by
  apply BitVec.eq_of_getLsbD_eq; intro i hi
  rw [put_bit, field_bit]
  by_cases h : 0 ≤ lo ∧ i < 64 ∧ lo.toNat ≤ i ∧ i - lo.toNat < n.toNat
  · rw [if_pos h, show lo.toNat + (i - lo.toNat) = i by omega]
    simp [h.1, show i - lo.toNat < 64 by omega, show ((i - lo.toNat : Nat) : Int) < n by omega]
  · rw [if_neg h]
theorem back_two (x v : BitVec 64) (lo n : Int) : putB (putB x lo n v) lo n (fieldB x lo n) = x := by
  apply BitVec.eq_of_getLsbD_eq; intro i hi
  rw [put_bit, field_bit]
  by_cases h : 0 ≤ lo ∧ i < 64 ∧ lo.toNat ≤ i ∧ i - lo.toNat < n.toNat
  · rw [if_pos h, show lo.toNat + (i - lo.toNat) = i by omega]
    simp [h.1, show i - lo.toNat < 64 by omega, show ((i - lo.toNat : Nat) : Int) < n by omega]
  · rw [if_neg h, put_bit, if_neg h]
theorem back_none (x v : BitVec 64) (lo n : Int) (h : lo < 0 ∨ lo > 63 ∨ n < 1) : putB x lo n v = x ∧ fieldB x lo n = 0#64 := by
  constructor
  · apply BitVec.eq_of_getLsbD_eq; intro i hi
    rw [put_bit, if_neg (by omega)]
  · apply BitVec.eq_of_getLsbD_eq; intro i hi
    rw [field_bit]
    by_cases h0 : 0 ≤ lo
    · by_cases h1 : (i : Int) < n
      · rw [BitVec.getLsbD_of_ge _ _ (by omega)]; simp
      · simp [h1]
    · simp [h0]
theorem back_field (x v : BitVec 64) (lo n : Int) (h0 : 0 ≤ lo) (h1 : lo ≤ 63) (h2 : 1 ≤ n) (k : Nat) (hk : k = min n.toNat (64 - lo.toNat)) : fieldB (putB x lo n v) lo n = v &&& mk k := by
  apply BitVec.eq_of_getLsbD_eq; intro i hi
  rw [field_bit, put_bit, BitVec.getLsbD_and, mk_bit]
  by_cases h : i < k
  · rw [if_pos (by omega), show lo.toNat + i - lo.toNat = i by omega]
    simp [h0, hi, h, show (i : Int) < n by omega]
  · rw [show decide (i < k) = false from decide_eq_false h]
    by_cases h3 : (i : Int) < n
    · rw [if_neg (by omega), BitVec.getLsbD_of_ge _ _ (by omega)]; simp
    · simp [h3]
theorem back_low (x v : BitVec 64) (lo n : Int) : putB x lo n v &&& mk lo.toNat = x &&& mk lo.toNat := by
  apply BitVec.eq_of_getLsbD_eq; intro i hi
  rw [BitVec.getLsbD_and, BitVec.getLsbD_and, mk_bit, put_bit]
  by_cases h : i < lo.toNat
  · rw [if_neg (by omega)]
  · simp [h]
theorem back_high (x v : BitVec 64) (lo n : Int) (s : Nat) (hs : lo.toNat + n.toNat ≤ s) : putB x lo n v >>> s = x >>> s := by
  apply BitVec.eq_of_getLsbD_eq; intro i hi
  rw [BitVec.getLsbD_ushiftRight, BitVec.getLsbD_ushiftRight, put_bit, if_neg (by omega)]
theorem back_join (x : BitVec 64) (l m k n : Nat) (hm : m < k) (hl : l + k ≤ 64) (hkn : k ≤ n) (hkl : k = n ∨ k = 64 - l) : fieldB x (l : Int) (m : Int) + fieldB x ((l : Int) + m) ((k : Int) - m) <<< m = fieldB x (l : Int) (n : Int) := by
  have hb1 : ∀ i, (fieldB x (l : Int) (m : Int)).getLsbD i = (decide (i < 64) && decide (i < m) && x.getLsbD (l + i)) := by
    intro i; rw [field_bit]; simp
  have hb2 : ∀ i, i < 64 → (fieldB x ((l : Int) + m) ((k : Int) - m) <<< m).getLsbD i = (decide (m ≤ i) && decide (i < k) && x.getLsbD (l + i)) := by
    intro i hi; rw [BitVec.getLsbD_shiftLeft, field_bit]
    by_cases h : m ≤ i
    · rw [show ((l : Int) + m).toNat + (i - m) = l + i by omega, show decide (((i - m : Nat) : Int) < (k : Int) - m) = decide (i < k) from decide_eq_decide.2 (by omega)]
      simp [hi, h, show ¬ i < m by omega, show i - m < 64 by omega, show (0 : Int) ≤ (l : Int) + m by omega]
    · simp [h, show i < m by omega]
  rw [BitVec.add_eq_or_of_and_eq_zero]
  · apply BitVec.eq_of_getLsbD_eq; intro i hi
    rw [BitVec.getLsbD_or, hb1, hb2 i hi, field_bit]
    by_cases h1 : i < m
    · simp [hi, h1, show ¬ m ≤ i by omega]; try (intro _; omega)
    · by_cases h2 : i < k
      · simp [hi, h1, h2, show m ≤ i by omega, show (i : Int) < n by omega]; try (intro _; omega)
      · simp [h1, h2]
        intro _ h3
        rw [BitVec.getLsbD_of_ge _ _ (by omega)]
  · apply BitVec.eq_of_getLsbD_eq; intro i hi
    rw [BitVec.getLsbD_and, hb1, hb2 i hi]
    by_cases h1 : i < m
    · simp [h1, show ¬ m ≤ i by omega]
    · simp [h1]

theorem BitsBack : mezzaninelaw01_BitsBack.Pure := by
  intro a b lo n more ha hb hlo hn hmore
  obtain ⟨x, rfl⟩ := U_wf ha
  obtain ⟨v, rfl⟩ := U_wf hb
  have hlo := i64_in hlo
  have hn := i64_in hn
  have hmore := i64_in hmore
  refine ⟨9, ?_⟩
  unfold mezzaninelaw01_BitsBack.f
  rw [bits_awake]
  simp only [Option.bind_some, if_true]
  rw [put_eq, field_eq]
  simp only [Option.bind_some]
  rw [put_eq, back_one, put_eq, back_two]
  simp only [Option.bind_some, if_true, bne_self_eq_false]
  rw [show (9 : Nat) = 8 + 1 from rfl, mezzaninelaw01_BitsBack.j0, if_neg (by decide)]
  have hbad : lo < 0 ∨ lo > 63 ∨ n < 1 → mezzaninelaw01_BitsBack.j1 8 (U x) (U v) lo n more (U (putB x lo n v)) (U (fieldB x lo n)) true = some true := by
    intro h
    obtain ⟨h1, h2⟩ := back_none x v lo n h
    rw [h1, h2, show (8 : Nat) = 7 + 1 from rfl, mezzaninelaw01_BitsBack.j1, if_pos rfl, if_pos rfl]; rfl
  by_cases h0 : lo < 0
  · rw [if_pos h0]; exact hbad (.inl h0)
  rw [if_neg h0]
  by_cases h1 : lo > 63
  · rw [if_pos h1]; exact hbad (.inr (.inl h1))
  rw [if_neg h1]
  by_cases h2 : n < 1
  · rw [decide_eq_true h2]; exact hbad (.inr (.inr h2))
  rw [decide_eq_false h2, show (8 : Nat) = 7 + 1 from rfl, mezzaninelaw01_BitsBack.j1, if_neg (by decide)]
  have ew : wrap64 (64 - lo) = 64 - lo := by unfold wrap64; omega
  rw [ew]
  have key : ∀ k : Nat, k = min n.toNat (64 - lo.toNat) → mezzaninelaw01_BitsBack.j2 7 (U x) (U v) lo n more (U (putB x lo n v)) (U (fieldB x lo n)) (k : Int) = some true := by
    intro k hk
    rw [show (7 : Nat) = 6 + 1 from rfl, mezzaninelaw01_BitsBack.j2, field_eq, mask_eq, mask_eq]
    simp only [Option.bind_some]
    rw [back_field x v lo n (by omega) (by omega) (by omega) k hk, and_u64, and_u64, and_u64, ofInt_U, ofInt_U, ofInt_U, ofInt_U, ofInt_U, show ((k : Int)).toNat = k by omega, if_pos rfl, back_low]
    simp only [bne_self_eq_false]
    rw [show (6 : Nat) = 5 + 1 from rfl, mezzaninelaw01_BitsBack.j3, if_neg (by decide)]
    have e1 : wrap64 (lo + k) = lo + k := by unfold wrap64; omega
    have e2 : IntKind.u64.wrap (lo + k) = lo + k := by rw [IntKind.wrap_u64]; omega
    rw [e1, e2]
    have j4 : mezzaninelaw01_BitsBack.j4 5 (U x) lo more (U (fieldB x lo n)) (k : Int) false = some true := by
      rw [show (5 : Nat) = 4 + 1 from rfl, mezzaninelaw01_BitsBack.j4, if_neg (by decide)]
      by_cases hm1 : more < 1
      · rw [if_pos hm1, show (4 : Nat) = 3 + 1 from rfl, mezzaninelaw01_BitsBack.j5, if_pos rfl]
      rw [if_neg hm1]
      by_cases hm2 : more ≥ (k : Int)
      · rw [decide_eq_true hm2, show (4 : Nat) = 3 + 1 from rfl, mezzaninelaw01_BitsBack.j5, if_pos rfl]
      rw [decide_eq_false hm2, show (4 : Nat) = 3 + 1 from rfl, mezzaninelaw01_BitsBack.j5, if_neg (by decide), field_eq, field_eq]
      simp only [Option.bind_some]
      obtain ⟨l, rfl⟩ : ∃ l : Nat, lo = (l : Int) := ⟨lo.toNat, by omega⟩
      obtain ⟨m, rfl⟩ : ∃ m : Nat, more = (m : Int) := ⟨more.toNat, by omega⟩
      obtain ⟨p, rfl⟩ : ∃ p : Nat, n = (p : Int) := ⟨n.toNat, by omega⟩
      have e3 : wrap64 ((l : Int) + m) = (l : Int) + m := by unfold wrap64; omega
      have e4 : wrap64 ((k : Int) - m) = (k : Int) - m := by unfold wrap64; omega
      have e5 : IntKind.u64.wrap (m : Int) = (m : Int) := by rw [IntKind.wrap_u64]; omega
      rw [e3, e4, e5, if_pos (by omega), shl_u64, wrap_u64, add_UU, show ((m : Int)).toNat = m by omega, back_join x l m k p (by omega) (by omega) (by omega) (by omega)]
      simp
    by_cases h3 : lo + (k : Int) < 64
    · rw [if_pos h3, if_pos (by omega), shr_u64, shr_u64, back_high x v lo n _ (by omega)]
      simp only [bne_self_eq_false]
      exact j4
    · rw [if_neg h3]; exact j4
  by_cases h3 : n > 64 - lo
  · rw [if_pos h3]
    have := key (64 - lo).toNat (by omega)
    rw [show (((64 - lo).toNat : Nat) : Int) = 64 - lo by omega] at this
    exact this
  · rw [if_neg h3]
    have := key n.toNat (by omega)
    rw [show ((n.toNat : Nat) : Int) = n by omega] at this
    exact this
end Go.Proofs.Ytkcgihpnlekfnaa.Pure
