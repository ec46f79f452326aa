/- Single bits, of words of four widths, words made of bits' numbers, and these numbers, are the document's; the list that is handed in stays as it was. -/
import Derived.Test.YtkcgihpnlekfnaaDoorQx4
import Derived.Test.YtkcgihpnlekfnaaDoorQOnes
set_option linter.unusedSimpArgs false
set_option linter.unusedVariables false
namespace Go.Proofs.YtkcgihpnlekfnaaDoor.Pure
open Go.RowKit Go.Proofs.YtkcgihpnlekfnaaDoor.Q Go.Proofs.YtkcgihpnlekfnaaDoorW.PrintWords Go.Proofs.YtkcgihpnlekfnaaDoorW.PrintLast Go.Proofs.YtkcgihpnlekfnaaDoorW.PrintMore Go.Proofs.YtkcgihpnlekfnaaDoor.Bv Go.Proofs.YtkcgihpnlekfnaaDoor.QO
/-- A bit of a number; none outside 0 to 63. -/
def bt1 (x : Nat) (i : Int) : Bool := if i < 0 then false else if i > 63 then false else x.testBit i.toNat
theorem bitOf_nat {x : Nat} (hx : x < 18446744073709551616) (i : Nat) : bitOf (BitVec.ofInt 64 (x : Int)) i = x.testBit i := by
  unfold bitOf; rw [← BitVec.testBit_toNat, BitVec.ofInt_natCast, BitVec.toNat_ofNat, Nat.mod_eq_of_lt hx]
theorem rbit_eq (x : Nat) (hx : x < 18446744073709551616) (i : Int) : mezzanineref01_Bit.f (x : Int) i = some (bt1 x i) := by
  unfold mezzanineref01_Bit.f bt1
  rw [if_pos (by omega), bitOf_nat hx]
theorem b64_eq (x : Nat) (hx : x < 18446744073709551616) (i : Int) : bits_Bit_uint64.f (x : Int) i = some (bt1 x i) := by
  by_cases h0 : i ≥ 0
  · by_cases h1 : i < 64
    · obtain ⟨n, rfl⟩ := Int.eq_ofNat_of_zero_le h0
      rw [bit_eq x n hx (by omega)]; unfold bt1; rw [if_neg (by omega), if_neg (by omega), Int.toNat_natCast]
    · unfold bits_Bit_uint64.f bt1; rw [if_pos h0, if_neg h1, if_neg (by omega), if_pos (by omega)]
  · unfold bits_Bit_uint64.f bt1; rw [if_neg h0, if_pos (by omega)]
theorem b32_eq (x : Nat) (hx : x < 18446744073709551616) (i : Int) : bits_Bit_uint32.f (x : Int) i = some (bt1 x i) := by
  rw [← b64_eq x hx i]; unfold bits_Bit_uint32.f bits_Bit_uint64.f; rw [IntKind.wrap_u64, Int.emod_eq_of_lt (by omega) (by omega)]
theorem b16_eq (x : Nat) (hx : x < 18446744073709551616) (i : Int) : mezzaninelaw01_word.f (x : Int) i = some (bt1 x i) := by
  rw [← b64_eq x hx i]; unfold mezzaninelaw01_word.f bits_Bit_uint64.f; rw [IntKind.wrap_u64, Int.emod_eq_of_lt (by omega) (by omega)]
theorem b8_eq (x : Nat) (hx : x < 18446744073709551616) (i : Int) : bits_Bit_uint8.f (x : Int) i = some (bt1 x i) := by
  rw [← b64_eq x hx i]; unfold bits_Bit_uint8.f bits_Bit_uint64.f; rw [IntKind.wrap_u64, Int.emod_eq_of_lt (by omega) (by omega)]
theorem same_loop (l : List Int) (hl : l.length < 9223372036854775807) : ∀ m i : Nat, i ≤ l.length → l.length - i ≤ m → mezzanineref01_Same.l0 (m + 1) l l (i : Int) = some true := by
  intro m
  induction m with
  | zero => intro i hi hm; rw [mezzanineref01_Same.l0, if_neg (by omega)]
  | succ m ih =>
    intro i hi hm
    rw [mezzanineref01_Same.l0]
    by_cases hlt : i < l.length
    · rw [if_pos (by omega), if_pos (by omega), if_pos (by omega), if_pos rfl, show wrap64 ((i : Int) + 1) = ((i + 1 : Nat) : Int) by unfold wrap64; omega]; exact ih (i + 1) (by omega) (by omega)
    · rw [if_neg (by omega)]
theorem same_eq (k : Nat) (l : List Int) (h : l.length ≤ k) (hl : l.length < 9223372036854775807) : mezzanineref01_Same.f (k + 1) l l = some true := by
  unfold mezzanineref01_Same.f; rw [if_pos rfl]; exact same_loop l hl k 0 (by omega) (by omega)
theorem rones_eq (x : Nat) (hx : x < 18446744073709551616) : mezzanineref01_Ones.f (x : Int) = some (ones x 64) := by
  unfold mezzanineref01_Ones.f
  rw [if_pos (by omega)]
  have h : ∀ p, mezzanineref01_Ones.upto (BitVec.ofInt 64 (x : Int)) p = ones x p := by
    intro p; induction p with
    | zero => rfl
    | succ p ih => rw [mezzanineref01_Ones.upto, ones, ih, bitOf_nat hx]
  rw [h]
theorem fold_bit (l : List Int) : ∀ w i : Nat, i < 64 → (l.foldl put1 w).testBit i = (w.testBit i || mezzanineref01_Of.b l i) := by
  induction l with
  | nil => intro w i hi; simp [mezzanineref01_Of.b]
  | cons z l ih =>
    intro w i hi
    rw [List.foldl_cons, ih _ i hi]
    have e : mezzanineref01_Of.b (z :: l) i = ((z == (i : Int)) || mezzanineref01_Of.b l i) := by unfold mezzanineref01_Of.b; rw [List.any_cons]
    rw [e, ← Bool.or_assoc]
    congr 1
    unfold put1
    by_cases h : 0 ≤ z ∧ z < 64
    · rw [if_pos h, Nat.testBit_or, Nat.testBit_two_pow]
      congr 1
      rw [Bool.eq_iff_iff, decide_eq_true_iff, beq_iff_eq]; omega
    · rw [if_neg h, show (z == (i : Int)) = false by simp; omega, Bool.or_false]
theorem fold_lt (l : List Int) : ∀ w : Nat, w < 18446744073709551616 → l.foldl put1 w < 18446744073709551616 := by
  induction l with
  | nil => intro w h; exact h
  | cons z l ih => intro w h; rw [List.foldl_cons]; exact ih _ (put1_lt h z)
theorem rof_eq (l : List Int) (hl : l.length < 9223372036854775807) : mezzanineref01_Of.f l = some ((l.foldl put1 0 : Nat) : Int) := by
  unfold mezzanineref01_Of.f
  rw [if_pos hl]
  have hlt := fold_lt l 0 (by decide)
  have e : ofB (mezzanineref01_Of.b l) = BitVec.ofNat 64 (l.foldl put1 0) := by
    apply ofB_eq; intro i hi
    rw [BitVec.getLsbD_ofNat, fold_bit l 0 i hi, Nat.zero_testBit, Bool.false_or]; simp [hi]
  rw [e]; unfold U; rw [BitVec.toNat_ofNat, Nat.mod_eq_of_lt hlt]
theorem ones_l0 (x : Nat) (hx : x < 18446744073709551616) (l : List Int) (hl : l.length ≤ 200) : ∀ m i : Nat, ∀ o : List Int, o.length ≤ 64 → i ≤ o.length → o.length - i ≤ m →
    mezzaninelaw01_BitsOnes.l0 (m + 300) (x : Int) l l ((l.foldl put1 0 : Nat) : Int) o true (i : Int) = some true := by
  intro m
  have fin (m : Nat) (o : List Int) (i : Int) (h : ¬i < (o.length : Int)) : mezzaninelaw01_BitsOnes.l0 (m + 300) (x : Int) l l ((l.foldl put1 0 : Nat) : Int) o true i = some true := by
    have hlen := ones_len x 64
    rw [show m + 300 = (m + 299) + 1 from rfl, mezzaninelaw01_BitsOnes.l0, if_neg h, rof_eq l (by omega), bsm, if_pos rfl, if_pos rfl, show m + 299 = (m + 298) + 1 from rfl, same_eq (m + 298) l (by omega) (by omega), bsm, if_pos rfl,
      show m + 298 + 1 = (m + 234) + 65 from rfl, ones_eq (m + 234) x hx, bsm, rones_eq x hx, bsm, show m + 234 + 65 = (m + 298) + 1 from rfl, same_eq (m + 298) _ (by omega) (by omega), bsm]
  induction m with
  | zero => intro i o ho hi hm; exact fin 0 o _ (by omega)
  | succ m ih =>
    intro i o ho hi hm
    by_cases hlt : i < o.length
    · rw [show m + 1 + 300 = (m + 300) + 1 by omega, mezzaninelaw01_BitsOnes.l0, if_pos (by omega), if_pos (by omega), show wrap64 ((i : Int) + 1) = ((i + 1 : Nat) : Int) by unfold wrap64; omega]
      exact ih (i + 1) _ (by rw [List.length_set]; exact ho) (by rw [List.length_set]; omega) (by rw [List.length_set]; omega)
    · exact fin (m + 1) o _ (by omega)
theorem ones_j0 (x : Nat) (hx : x < 18446744073709551616) (l : List Int) (hl : l.length ≤ 200) : mezzaninelaw01_BitsOnes.j0 500 (x : Int) l l false = some true := by
  have hlen := ones_len x 64
  rw [show 500 = 499 + 1 from rfl, mezzaninelaw01_BitsOnes.j0, if_neg (by decide), of_eq 498 l (by omega) (by omega), bsm, ones_eq 434 x hx, bsm, rones_eq x hx, bsm, same_eq 498 _ (by omega) (by omega), bsm]
  exact ones_l0 x hx l hl 199 0 (ones x 64) hlen (by omega) (by omega)
theorem BitsOnes : mezzaninelaw01_BitsOnes.Pure := by
  intro w i l hw hi hl1 hl2 hl3
  obtain ⟨w0, w1⟩ := u64_in hw
  obtain ⟨x, rfl⟩ := Int.eq_ofNat_of_zero_le w0
  have hx : x < 18446744073709551616 := by omega
  refine ⟨500, ?_⟩
  unfold mezzaninelaw01_BitsOnes.f
  rw [bits_awake 495, bsm, if_pos rfl]
  by_cases hlen : (l.length : Int) > 200
  · rw [if_pos hlen]
  have m32 : (x : Int) % 4294967296 = ((x % 4294967296 : Nat) : Int) := by omega
  have m16 : IntKind.u16.wrap (x : Int) = ((x % 65536 : Nat) : Int) := by simp [IntKind.wrap, IntKind.signed, IntKind.bits]
  have m8 : (x : Int) % 256 = ((x % 256 : Nat) : Int) := by omega
  have t32 : Int.tmod (x : Int) 4294967296 = ((x % 4294967296 : Nat) : Int) := by rw [Int.tmod_eq_emod_of_nonneg (by omega)]; omega
  have t16 : Int.tmod (x : Int) 65536 = ((x % 65536 : Nat) : Int) := by rw [Int.tmod_eq_emod_of_nonneg (by omega)]; omega
  have t8 : Int.tmod (x : Int) 256 = ((x % 256 : Nat) : Int) := by rw [Int.tmod_eq_emod_of_nonneg (by omega)]; omega
  rw [if_neg hlen, bsm, if_pos (by simp; omega), bsm, List.nil_append, b64_eq x hx, bsm, rbit_eq x hx, bsm, bne_self_eq_false, if_neg (by decide),
    m32, t32, b32_eq _ (by omega), bsm, rbit_eq _ (by omega), bsm, bne_self_eq_false, if_neg (by decide), m16, t16, b16_eq _ (by omega), bsm, rbit_eq _ (by omega), bsm, bne_self_eq_false, if_neg (by decide),
    m8, t8, b8_eq _ (by omega), bsm, rbit_eq _ (by omega), bsm, bne_self_eq_false]
  exact ones_j0 x hx l (by omega)
end Go.Proofs.YtkcgihpnlekfnaaDoor.Pure
