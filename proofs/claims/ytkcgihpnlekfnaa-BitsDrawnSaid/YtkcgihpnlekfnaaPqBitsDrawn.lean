/- What a sign is drawn out to (bits.Sext) is so drawn out, has the lowest bits, is held between two powers of two, and drawn out again is the same: of any word, any number from 1 to 64. -/
import Derived.Test.YtkcgihpnlekfnaaQx3
import Derived.Test.YtkcgihpnlekfnaaQBits
set_option linter.unusedSimpArgs false
set_option linter.unusedVariables false
namespace Go.Proofs.Ytkcgihpnlekfnaa.Pure
open Go.RowKit Go.Proofs.Ytkcgihpnlekfnaa.Q Go.Proofs.YtkcgihpnlekfnaaW.PrintWords Go.Proofs.YtkcgihpnlekfnaaW.PrintLast Go.Proofs.YtkcgihpnlekfnaaW.PrintMore Go.Proofs.Ytkcgihpnlekfnaa.Bv Go.Proofs.Ytkcgihpnlekfnaa.QF

theorem sext_sext (x : BitVec 64) (n : Int) (h : 1 ≤ n) (h' : n ≤ 64) : sextB (sextB x n) n = sextB x n := by
  apply BitVec.eq_of_getLsbD_eq; intro i hi
  rw [sext_bit _ n h h', sext_bit x n h h']
  by_cases h1 : (i : Int) < n
  · rw [if_pos h1, if_pos h1]; simp
  · rw [if_neg h1, if_neg h1, sext_bit x n h h', if_pos (by omega)]; simp [hi]; omega
theorem sext_field (x : BitVec 64) (n : Int) (h : 1 ≤ n) (h' : n ≤ 64) : fieldB (sextB x n) 0 n = fieldB x 0 n := by
  apply BitVec.eq_of_getLsbD_eq; intro i hi
  rw [field_bit, field_bit, sext_bit x n h h']
  by_cases h1 : (i : Int) < n
  · simp [h1, hi, show ((0 + i : Nat) : Int) < n by omega]
  · simp [h1]
theorem sext_mk (x : BitVec 64) (n : Int) (h : 1 ≤ n) (h' : n ≤ 64) : sextB x n &&& mk n.toNat = x &&& mk n.toNat := by
  apply BitVec.eq_of_getLsbD_eq; intro i hi
  rw [BitVec.getLsbD_and, BitVec.getLsbD_and, mk_bit, sext_bit x n h h']
  by_cases h1 : (i : Int) < n
  · simp [h1, hi, show i < n.toNat by omega]
  · simp [show ¬ i < n.toNat by omega]
theorem sext_range (x : BitVec 64) (m : Nat) (h' : m < 63) : -(2 : Int) ^ m ≤ S (sextB x ((m : Int) + 1)) ∧ S (sextB x ((m : Int) + 1)) < 2 ^ m := by
  unfold sextB
  rw [if_neg (by omega), show (64 - ((m : Int) + 1)).toNat = 63 - m by omega, ← S_div_pow]
  have hr := S_range (x <<< (63 - m))
  generalize S (x <<< (63 - m)) = z at hr ⊢
  have hp : (2 : Int) ^ m * 2 ^ (63 - m) = 9223372036854775808 := by rw [← Int.pow_add, show m + (63 - m) = 63 by omega]; rfl
  have hpos : (0 : Int) < 2 ^ (63 - m) := Int.pow_pos (by decide)
  constructor
  · apply Int.le_ediv_of_mul_le hpos
    rw [Int.neg_mul, hp]; exact hr.1
  · apply Int.ediv_lt_of_lt_mul hpos
    rw [hp]; exact hr.2

theorem BitsDrawn : mezzaninelaw01_BitsDrawn.Pure := by
  intro a b ha hb
  obtain ⟨x, rfl⟩ := U_wf ha
  refine ⟨9, ?_⟩
  have hn : ∃ m : Nat, wrap64 (1 + (Int.tmod (Go.bits .and .i64 b 4611686018427387903) 64)) = (m : Int) + 1 ∧ m < 64 := by
    have h1 : 0 ≤ Go.bits .and .i64 b 4611686018427387903 := by
      rw [and_i64, show BitVec.ofInt 64 4611686018427387903 = mk 62 from rfl]
      unfold S
      have h2 := BitVec.toInt_eq_toNat_cond (BitVec.ofInt 64 b &&& mk 62)
      have h3 := and_mk_toNat (BitVec.ofInt 64 b) 62 (by omega)
      have h4 : (BitVec.ofInt 64 b).toNat % 2 ^ 62 < 2 ^ 62 := Nat.mod_lt _ (by decide)
      rw [h3] at h2
      rw [h2, if_pos (by omega)]; omega
    generalize Go.bits .and .i64 b 4611686018427387903 = c at h1 ⊢
    rw [Int.tmod_eq_emod_of_nonneg h1]
    refine ⟨(c % 64).toNat, ?_, by omega⟩
    unfold wrap64; omega
  obtain ⟨m, hm, hm64⟩ := hn
  unfold mezzaninelaw01_BitsDrawn.f
  rw [bits_awake, hm]
  have hb1 : (1 : Int) ≤ (m : Int) + 1 := by omega
  have hb2 : (m : Int) + 1 ≤ 64 := by omega
  have hss := sext_sext x ((m : Int) + 1) hb1 hb2
  rw [sext_eq x _ (by omega)]
  simp only [Option.bind_some, if_true]
  rw [canon_eq _ _ (by omega), hss, show decide ((m : Int) + 1 > 0) = true from decide_eq_true (by omega), show decide (sextB x ((m : Int) + 1) = sextB x ((m : Int) + 1)) = true by simp]
  simp only [Option.bind_some, Bool.and_self, if_true]
  rw [sext_eq _ _ (by omega), hss, field_eq, field_eq, sext_field x _ hb1 hb2, canon_eq x _ (by omega)]
  simp only [Option.bind_some, if_true]
  rw [show decide ((m : Int) + 1 > 0) = true from decide_eq_true (by omega), Bool.true_and]
  have e : (decide (sextB x ((m : Int) + 1) = x) != (U (sextB x ((m : Int) + 1)) == U x)) = false := by
    have : (U (sextB x ((m : Int) + 1)) == U x) = decide (sextB x ((m : Int) + 1) = x) := by
      rw [Bool.eq_iff_iff, beq_iff_eq, decide_eq_true_eq]; exact U_inj
    rw [this]; simp
  rw [e]
  rw [show (9 : Nat) = 8 + 1 from rfl, mezzaninelaw01_BitsDrawn.j0]
  rw [if_neg (by decide)]
  by_cases h64 : (m : Int) + 1 = 64
  · rw [if_pos h64]
    have : sextB x ((m : Int) + 1) = x := by
      rw [h64]; unfold sextB; rw [if_neg (by decide)]
      apply BitVec.eq_of_getLsbD_eq; intro i hi
      simp [BitVec.getLsbD_sshiftRight, hi]
    rw [this]; simp
  rw [if_neg h64]
  have hm63 : m < 63 := by omega
  have e1 : IntKind.u64.wrap (wrap64 ((m : Int) + 1 - 1)) = (m : Int) := by rw [IntKind.wrap_u64]; unfold wrap64; omega
  have e2 : IntKind.u64.wrap ((m : Int) + 1) = (m : Int) + 1 := by rw [IntKind.wrap_u64]; omega
  obtain ⟨r1, r2⟩ := sext_range x m hm63
  have hpb : (2 : Int) ^ m ≤ 4611686018427387904 := by
    have : (2 : Int) ^ m * 2 ^ (62 - m) = 4611686018427387904 := by rw [← Int.pow_add, show m + (62 - m) = 62 by omega]; rfl
    have hpos : (0 : Int) < 2 ^ (62 - m) := Int.pow_pos (by decide)
    have hp0 : (0 : Int) < 2 ^ m := Int.pow_pos (by decide)
    calc (2 : Int) ^ m = 2 ^ m * 1 := by omega
      _ ≤ 2 ^ m * 2 ^ (62 - m) := Int.mul_le_mul_of_nonneg_left (by omega) (by omega)
      _ = 4611686018427387904 := this
  have hp0 : (0 : Int) < 2 ^ m := Int.pow_pos (by decide)
  have s1 : shl .i64 (-1) (m : Int) = -(2 : Int) ^ m := by
    unfold shl; rw [show IntKind.i64.bits = 64 from rfl, show min ((m : Int).toNat) 64 = m by omega, IntKind.wrap_i64, Int.neg_mul, Int.one_mul]; omega
  have s2 : shl .i64 1 (m : Int) = (2 : Int) ^ m := by
    unfold shl; rw [show IntKind.i64.bits = 64 from rfl, show min ((m : Int).toNat) 64 = m by omega, IntKind.wrap_i64, Int.one_mul]; omega
  have s3 : shl .u64 1 ((m : Int) + 1) = (2 : Int) ^ (m + 1) := by
    unfold shl; rw [show IntKind.u64.bits = 64 from rfl, show min (((m : Int) + 1).toNat) 64 = m + 1 by omega, IntKind.wrap_u64, Int.one_mul, Int.pow_succ]; omega
  have hw : wrap64 (U (sextB x ((m : Int) + 1))) = S (sextB x ((m : Int) + 1)) := by rw [wrap64_S, ofInt_U]
  rw [e1, e2, if_pos (by omega), s1, s2, hw, if_pos (show S (sextB x ((m : Int) + 1)) ≥ -(2 : Int) ^ m from r1), if_pos r2, if_pos (by omega), s3]
  have hpp : (0 : Int) < 2 ^ (m + 1) := Int.pow_pos (by decide)
  rw [if_neg (by omega)]
  congr 1
  rw [beq_iff_eq]
  have hu : IntKind.u64.wrap (S (sextB x ((m : Int) + 1))) = U (sextB x ((m : Int) + 1)) := by rw [wrap_u64, ofInt_S]
  rw [hu, wrap_u64, sub_UU, Int.tmod_eq_emod_of_nonneg (U_range _).1, U_mod_pow _ _ (by omega)]
  rw [show (0 : Int) = U 0#64 from rfl]; congr 1
  have hmk : sextB x ((m : Int) + 1) &&& mk (m + 1) = x &&& mk (m + 1) := sext_mk x ((m : Int) + 1) hb1 hb2
  apply BitVec.eq_of_toNat_eq
  rw [and_mk_toNat _ _ (by omega), BitVec.toNat_sub]
  have h1 := congrArg BitVec.toNat hmk
  rw [and_mk_toNat _ _ (by omega), and_mk_toNat _ _ (by omega)] at h1
  have hd : (2 : Nat) ^ (m + 1) ∣ 2 ^ 64 := Nat.pow_dvd_pow 2 (by omega)
  rw [Nat.mod_mod_of_dvd _ hd]
  generalize (sextB x ((m : Int) + 1)).toNat = p at h1 ⊢
  have hx := x.isLt
  generalize x.toNat = q at h1 hx ⊢
  obtain ⟨c, hc⟩ := hd
  have hq : q + (2 ^ 64 - q) = 2 ^ 64 := by omega
  have : (2 ^ 64 - q + p) % 2 ^ (m + 1) = 0 := by
    rw [Nat.add_mod, h1, ← Nat.add_mod, show 2 ^ 64 - q + q = 2 ^ 64 by omega, hc, Nat.mul_mod_right]
  rw [this]; rfl
end Go.Proofs.Ytkcgihpnlekfnaa.Pure
