/- A number that is put into a word is read as it was, and a word's number put again are its bits. -/
import Derived.Test.YtkolnfhaoklmaaaQx11
import Derived.Test.YtkolnfhaoklmaaaQBack
set_option linter.unusedSimpArgs false
set_option linter.unusedVariables false
namespace Go.Proofs.Ytkolnfhaoklmaaa.Pure
open Go.RowKit Go.Proofs.Ytkolnfhaoklmaaa.Q Go.Proofs.YtkolnfhaoklmaaaW.PrintWords Go.Proofs.YtkolnfhaoklmaaaW.PrintLast Go.Proofs.YtkolnfhaoklmaaaW.PrintMore Go.Proofs.Ytkolnfhaoklmaaa.Bv Go.Proofs.Ytkolnfhaoklmaaa.QF
theorem sg_fits {f ps s b W} (g : QF.Good f ps s b W) (w : Nat) : inr b W (sgx b W (num w (places ps s))) = true ∧ wd (sgx b W (num w (places ps s))) % 2 ^ W = num w (places ps s) % 2 ^ W ∧ -9223372036854775808 ≤ sgx b W (num w (places ps s)) ∧ sgx b W (num w (places ps s)) < 9223372036854775808 := by
  have hW0 := g.W0; have hp := pow32 g.W1
  have e2 : 2 ^ W = 2 * 2 ^ (W - 1) := by rw [show W = (W - 1) + 1 by omega, Nat.pow_succ, Nat.mul_comm]; simp
  have hd : (18446744073709551616 : Nat) % 2 ^ W = 0 := by
    rw [show (18446744073709551616 : Nat) = 2 ^ (W + (64 - W)) by rw [show W + (64 - W) = 64 by have := g.W1; omega], Nat.pow_add]; exact Nat.mul_mod_right _ _
  have hlt := num_lt w (places ps s)
  rw [g.plen] at hlt
  generalize num w (places ps s) = x at hlt ⊢
  unfold sgx inr wd
  by_cases h : b = true ∧ 2 ^ (W - 1) ≤ x
  · rw [if_pos h, if_pos h.1]
    refine ⟨decide_eq_true (by omega), ?_, by omega, by omega⟩
    have e4 : (((x : Int) - ((2 ^ W : Nat) : Int)) % 18446744073709551616).toNat + 2 ^ W = x + 18446744073709551616 := by omega
    have e5 : ((((x : Int) - ((2 ^ W : Nat) : Int)) % 18446744073709551616).toNat + 2 ^ W) % 2 ^ W = (x + 18446744073709551616) % 2 ^ W := by rw [e4]
    rw [Nat.add_mod_right, Nat.add_mod x, hd, Nat.add_zero, Nat.mod_mod] at e5; exact e5
  · rw [if_neg h]
    refine ⟨?_, by rw [show ((x : Int) % 18446744073709551616).toNat = x by omega], by omega, by omega⟩
    cases b
    · rw [if_neg (by decide)]; exact decide_eq_true (by omega)
    · rw [if_pos rfl]; refine decide_eq_true ?_
      have : ¬ 2 ^ (W - 1) ≤ x := fun h' => h ⟨rfl, h'⟩
      omega
theorem again {f ps s b W} (g : QF.Good f ps s b W) (w : Nat) (hw : w < 4294967296) (k : Nat) (t : Bool) :
    mezzaninelaw08_FieldsBack.j0 (k + 21) f (w : Int) t ((bs (places ps s) : Nat) : Int) = some true := by
  obtain ⟨h1, h2, h3, h4⟩ := sg_fits g w
  rw [mezzaninelaw08_FieldsBack.j0, number_eq g k w hw]; simp only [Option.bind_some, reduceIte]
  rw [put_eq g k _ h3 h4]; simp only [Option.bind_some]
  have hz : (decide (wd (sgx b W (num w (places ps s))) % 2 ^ s = 0) && inr b W (sgx b W (num w (places ps s)))) = true := by
    rw [h1, Bool.and_true, ← ok_places ps s, ← ok_mod, g.plen, h2]
    have e := ok_mod (num w (places ps s)) (places ps s)
    rw [g.plen] at e; rw [e, ok_num]
  rw [hz]; simp only [reduceIte]
  rw [← put_mod, g.plen, h2]
  have e := put_mod (num w (places ps s)) (places ps s)
  rw [g.plen] at e
  rw [e, put_num, u32_and_nat _ _ hw g.bsv, if_pos rfl, wakes_eq]; rfl
theorem FieldsBack : mezzaninelaw08_FieldsBack.Pure := by
  intro f n a hf hn ha
  obtain ⟨n0, n1⟩ := i64_in hn
  obtain ⟨a0, a1⟩ := u32_in ha
  obtain ⟨w, rfl⟩ := Int.eq_ofNat_of_zero_le a0
  have hw : w < 4294967296 := by omega
  refine ⟨61, ?_⟩
  unfold mezzaninelaw08_FieldsBack.f
  rcases forms f with ⟨ps, s, b, W, g⟩ | g
  · rw [put_eq g 41 n n0 n1, fits_eq g 41 n n0 n1]; simp only [Option.bind_some]
    rw [if_neg (by simp), g.bts 55]; simp only [Option.bind_some]
    cases hz : (decide (wd n % 2 ^ s = 0) && inr b W n)
    · simp only [Bool.false_eq_true, reduceIte]; exact again g w hw 40 _
    · have hz2 := hz
      rw [Bool.and_eq_true] at hz2
      have hok : ok (wd n) (places ps s) = true := by rw [ok_places]; exact hz2.1
      have hand : w &&& (4294967295 - bs (places ps s)) < 4294967296 := Nat.lt_of_le_of_lt Nat.and_le_left hw
      have hor : put (wd n) (places ps s) ||| (w &&& (4294967295 - bs (places ps s))) < 4294967296 := Nat.or_lt_two_pow (n := 32) (put_lt32 g _) hand
      simp only [reduceIte]
      rw [u32_andNot_nat _ _ hw g.bsv, u32_or_nat _ _ (put_lt32 g _) hand, number_eq g 41 _ hor]; simp only [Option.bind_some, reduceIte]
      rw [num_mix _ _ _ g.dis hok g.bsv, g.plen, sg_back g n hz2.2, if_pos rfl, u32_andNot_nat _ _ (put_lt32 g _) g.bsv, put_out _ _ g.bsv, if_pos (show ((0 : Nat) : Int) = 0 from rfl)]
      exact again g w hw 40 _
  · rw [g.put 60, g.fits 60]; simp only [Option.bind_some]
    rw [if_neg (by decide), g.bts 60]; simp only [Option.bind_some, Bool.false_eq_true, reduceIte]
    rw [mezzaninelaw08_FieldsBack.j0, g.number, wakes_eq 40]; simp
end Go.Proofs.Ytkolnfhaoklmaaa.Pure
