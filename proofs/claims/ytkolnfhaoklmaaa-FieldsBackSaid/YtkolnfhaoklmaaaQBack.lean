/- A number's word, and back. -/
import Derived.Test.YtkolnfhaoklmaaaQForms
set_option linter.unusedSimpArgs false
set_option linter.unusedVariables false
namespace Go.Proofs.Ytkolnfhaoklmaaa.QF
open Go.RowKit Go.Proofs.Ytkolnfhaoklmaaa.Q Go.Proofs.YtkolnfhaoklmaaaW.PrintWords Go.Proofs.YtkolnfhaoklmaaaW.PrintLast Go.Proofs.YtkolnfhaoklmaaaW.PrintMore Go.Proofs.Ytkolnfhaoklmaaa.Bv
theorem sg_back {f ps s b W} (g : Good f ps s b W) (n : Int) (h : inr b W n = true) : sgx b W (wd n % 2 ^ W) = n := by
  have hW0 := g.W0; have hp := pow32 g.W1; have hp1 := pow32 (show W - 1 ≤ 32 by have := g.W1; omega)
  have e2 : 2 ^ W = 2 * 2 ^ (W - 1) := by rw [show W = (W - 1) + 1 by omega, Nat.pow_succ, Nat.mul_comm]; simp
  have hd : (18446744073709551616 : Nat) % 2 ^ W = 0 := by
    rw [show (18446744073709551616 : Nat) = 2 ^ (W + (64 - W)) by rw [show W + (64 - W) = 64 by have := g.W1; omega], Nat.pow_add]; exact Nat.mul_mod_right _ _
  unfold inr at h; unfold sgx wd
  cases b
  · rw [if_neg (by decide), decide_eq_true_eq] at h
    rw [if_neg (fun h' => absurd h'.1 (by decide)), show (n % 18446744073709551616).toNat = n.toNat by omega, Nat.mod_eq_of_lt (by omega)]; omega
  · rw [if_pos rfl, decide_eq_true_eq] at h
    by_cases hn : 0 ≤ n
    · rw [show (n % 18446744073709551616).toNat = n.toNat by omega, Nat.mod_eq_of_lt (by omega), if_neg (by omega)]; omega
    · have e3 : (n % 18446744073709551616).toNat % 2 ^ W = (n + ((2 ^ W : Nat) : Int)).toNat := by
        have e4 : (n % 18446744073709551616).toNat + 2 ^ W = (n + ((2 ^ W : Nat) : Int)).toNat + 18446744073709551616 := by omega
        have e5 : ((n % 18446744073709551616).toNat + 2 ^ W) % 2 ^ W = ((n + ((2 ^ W : Nat) : Int)).toNat + 18446744073709551616) % 2 ^ W := by rw [e4]
        rw [Nat.add_mod_right, Nat.add_mod, hd, Nat.add_zero, Nat.mod_mod, Nat.mod_eq_of_lt (a := (n + ((2 ^ W : Nat) : Int)).toNat) (by omega)] at e5
        exact e5
      rw [e3, if_pos ⟨rfl, by omega⟩]; omega
end Go.Proofs.Ytkolnfhaoklmaaa.QF
