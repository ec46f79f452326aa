/- Two numbers of a form have the same word exactly if they are the same. -/
import Derived.Test.YtkolnfhaoklmaaaQx8
import Derived.Test.YtkolnfhaoklmaaaQBack
set_option linter.unusedSimpArgs false
set_option linter.unusedVariables false
namespace Go.Proofs.Ytkolnfhaoklmaaa.Pure
open Go.RowKit Go.Proofs.Ytkolnfhaoklmaaa.Q Go.Proofs.YtkolnfhaoklmaaaW.PrintWords Go.Proofs.YtkolnfhaoklmaaaW.PrintLast Go.Proofs.YtkolnfhaoklmaaaW.PrintMore Go.Proofs.Ytkolnfhaoklmaaa.Bv Go.Proofs.Ytkolnfhaoklmaaa.QF
theorem FieldsOrder : mezzaninelaw08_FieldsOrder.Pure := by
  intro f a b hf ha hb
  obtain ⟨a0, a1⟩ := i64_in ha
  obtain ⟨b0, b1⟩ := i64_in hb
  refine ⟨61, ?_⟩
  unfold mezzaninelaw08_FieldsOrder.f
  rcases forms f with ⟨ps, s, t, W, g⟩ | g
  · rw [fits_eq g 41 a a0 a1, fits_eq g 41 b b0 b1]; simp only [Option.bind_some]
    rw [mezzaninelaw08_FieldsOrder.j0, mezzaninelaw08_FieldsOrder.j0, put_eq g 40 a a0 a1, put_eq g 40 b b0 b1, wakes_eq 40]; simp only [Option.bind_some]
    cases hza : (decide (wd a % 2 ^ s = 0) && inr t W a)
    · simp
    · cases hzb : (decide (wd b % 2 ^ s = 0) && inr t W b)
      · simp
      · rw [Bool.and_eq_true] at hza hzb
        have back : ∀ (n : Int), decide (wd n % 2 ^ s = 0) = true → inr t W n = true → sgx t W (num (put (wd n) (places ps s)) (places ps s)) = n := by
          intro n h1 h2
          rw [num_put (places ps s) _ (wd n) g.dis (by rw [ok_places]; exact h1) (fun _ _ _ => rfl), g.plen, sg_back g n h2]
        have e : ((((put (wd a) (places ps s) : Nat) : Int) == ((put (wd b) (places ps s) : Nat) : Int)) == (a == b)) = true := by
          rw [beq_iff_eq, Bool.eq_iff_iff, beq_iff_eq, beq_iff_eq]
          constructor
          · intro h
            have h2 : put (wd a) (places ps s) = put (wd b) (places ps s) := by omega
            rw [← back a hza.1 hza.2, ← back b hzb.1 hzb.2, h2]
          · intro h; rw [h]
        simp only [reduceIte, Bool.not_true, Bool.false_eq_true]; rw [if_pos e]
  · rw [g.fits 60]; simp only [Option.bind_some]
    rw [if_neg (by decide), mezzaninelaw08_FieldsOrder.j0, if_pos (by rfl), wakes_eq 40]; rfl
end Go.Proofs.Ytkolnfhaoklmaaa.Pure
