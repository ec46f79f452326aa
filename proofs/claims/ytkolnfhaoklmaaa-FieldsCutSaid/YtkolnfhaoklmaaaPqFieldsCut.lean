/- Bits of a word, from one place to another, are the document's. -/
import Derived.Test.YtkolnfhaoklmaaaQx5
import Derived.Test.YtkolnfhaoklmaaaQForms
set_option linter.unusedSimpArgs false
set_option linter.unusedVariables false
namespace Go.Proofs.Ytkolnfhaoklmaaa.Pure
open Go.RowKit Go.Proofs.Ytkolnfhaoklmaaa.Q Go.Proofs.YtkolnfhaoklmaaaW.PrintWords Go.Proofs.YtkolnfhaoklmaaaW.PrintLast Go.Proofs.YtkolnfhaoklmaaaW.PrintMore Go.Proofs.Ytkolnfhaoklmaaa.Bv Go.Proofs.Ytkolnfhaoklmaaa.QF
theorem rfield_loop (w : Nat) (hw : w < 4294967296) (lo : Nat) (K : Nat) : ∀ (m : Nat) (x : Nat), lo + m ≤ 32 → x * 2 ^ m + 2 ^ m ≤ 4294967296 →
    mezzanineref08_Field.l0 (m + K + 1) (w : Int) (lo : Int) (x : Int) ((lo : Int) + (m : Int) - 1) = some ((x * 2 ^ m + w / 2 ^ lo % 2 ^ m : Nat) : Int) := by
  intro m; induction m with
  | zero => intro x _ _; rw [mezzanineref08_Field.l0, if_neg (by omega)]; simp [Nat.mod_one]
  | succ m ih =>
    intro x h1 h2
    have hb := bit1_lt (w.testBit (lo + m))
    have hp := Nat.two_pow_pos m
    rw [Nat.pow_succ] at h2
    have hx : 2 * x + 1 < 4294967296 := by
      have h3 : (2 * x + 2) * 1 ≤ (2 * x + 2) * 2 ^ m := Nat.mul_le_mul_left _ hp
      have h4 : (2 * x + 2) * 2 ^ m = x * (2 ^ m * 2) + 2 ^ m * 2 := by rw [Nat.add_mul]; simp only [Nat.mul_assoc, Nat.mul_comm, Nat.mul_left_comm]
      omega
    have h := ih (2 * x + bit1 (w.testBit (lo + m))) (by omega) (by
      have h4 : (2 * x + 2) * 2 ^ m = x * (2 ^ m * 2) + 2 ^ m * 2 := by rw [Nat.add_mul]; simp only [Nat.mul_assoc, Nat.mul_comm, Nat.mul_left_comm]
      have h5 : (2 * x + bit1 (w.testBit (lo + m))) * 2 ^ m + 2 ^ m = (2 * x + bit1 (w.testBit (lo + m)) + 1) * 2 ^ m := (Nat.succ_mul _ _).symm
      have h6 : (2 * x + bit1 (w.testBit (lo + m)) + 1) * 2 ^ m ≤ (2 * x + 2) * 2 ^ m := Nat.mul_le_mul_right _ (by omega)
      omega)
    rw [show m + 1 + K + 1 = (m + K + 1) + 1 by omega, mezzanineref08_Field.l0, if_pos (by omega), show ((lo : Int) + ((m + 1 : Nat) : Int) - 1) = ((lo + m : Nat) : Int) by omega, rbit_eq w _ hw (by omega)]
    simp only [Option.bind_some]
    have e1 : ((((2 * (x : Int)) % 4294967296) + (((bit1 (w.testBit (lo + m)) : Nat) : Int) % 4294967296)) % 4294967296) = ((2 * x + bit1 (w.testBit (lo + m)) : Nat) : Int) := by omega
    rw [e1, w64 (by omega) (by omega), show ((lo + m : Nat) : Int) - 1 = (lo : Int) + (m : Int) - 1 by omega, h]
    congr 2
    have e2 : w / 2 ^ lo % 2 ^ (m + 1) = w / 2 ^ lo % 2 ^ m + 2 ^ m * bit1 (w.testBit (lo + m)) := by
      rw [Nat.mod_pow_succ, bit1_mod, Nat.pow_add, Nat.div_div_eq_div_mul]
    rw [e2, Nat.add_mul, Nat.pow_succ]; simp only [Nat.mul_assoc, Nat.mul_comm, Nat.mul_left_comm]; omega
theorem FieldsCut : mezzaninelaw08_FieldsCut.Pure := by
  intro a hi lo ha hhi hlo
  obtain ⟨a0, a1⟩ := u32_in ha
  obtain ⟨w, rfl⟩ := Int.eq_ofNat_of_zero_le a0
  refine ⟨60, ?_⟩
  unfold mezzaninelaw08_FieldsCut.f
  have e : ∃ r, fields_Field.f (w : Int) hi lo = some r ∧ mezzanineref08_Field.f 60 (w : Int) hi lo = some r := by
    unfold mezzanineref08_Field.f
    rw [mezzanineref08_Field.j0, mezzanineref08_Field.j0]
    by_cases h1 : lo < 0
    · refine ⟨0, ?_, ?_⟩
      · unfold fields_Field.f; rw [if_pos h1]
      · rw [if_pos h1, if_pos (by rfl)]
    by_cases h2 : hi < lo
    · refine ⟨0, ?_, ?_⟩
      · unfold fields_Field.f; rw [if_neg h1, if_pos h2]
      · rw [if_neg h1, if_pos h2, if_pos (by rfl)]
    by_cases h3 : hi > 31
    · refine ⟨0, ?_, ?_⟩
      · unfold fields_Field.f; rw [if_neg h1, if_neg h2, if_pos h3]
      · rw [if_neg h1, if_neg h2, decide_eq_true h3, if_pos (by rfl)]
    have g : gp ⟨hi, lo⟩ := ⟨by show 0 ≤ lo; omega, by show lo ≤ hi; omega, by show hi ≤ 31; omega⟩
    refine ⟨_, field_eq w (by omega) g, ?_⟩
    obtain ⟨g1, g2, g3, g4⟩ := gp_facts g
    rw [if_neg h1, if_neg h2, decide_eq_false h3, if_neg (by decide)]
    have h := rfield_loop w (by omega) (lp ⟨hi, lo⟩) (58 - kp ⟨hi, lo⟩) (kp ⟨hi, lo⟩) 0 (by omega) (by have := pow32 (show kp ⟨hi, lo⟩ ≤ 32 by omega); omega)
    have e1 : ((lp ⟨hi, lo⟩ : Nat) : Int) = lo := g1.symm
    have e2 : ((kp ⟨hi, lo⟩ : Nat) : Int) = hi - lo + 1 := by unfold kp; show ((hi - lo + 1).toNat : Int) = _; omega
    rw [show kp ⟨hi, lo⟩ + (58 - kp ⟨hi, lo⟩) + 1 = 59 by omega, e1, e2, show lo + (hi - lo + 1) - 1 = hi by omega, Nat.zero_mul, Nat.zero_add] at h
    exact h
  obtain ⟨r, e1, e2⟩ := e
  rw [e1, e2, wakes_eq 40]; simp
end Go.Proofs.Ytkolnfhaoklmaaa.Pure
