/- What is added is taken away again; what is compared is told alike by instructions and branches, and of each two numbers just one of two opposite branches is taken. -/
import Derived.Test.YtbfdehkejohjhaaQx14
import Derived.Test.YtbfdehkejohjhaaQAluTwo
set_option linter.unusedSimpArgs false
set_option linter.unusedVariables false
namespace Go.Proofs.Ytbfdehkejohjhaa.Pure
open Go.RowKit Go.Proofs.Ytbfdehkejohjhaa.Q Go.Proofs.YtbfdehkejohjhaaW.PrintWords Go.Proofs.YtbfdehkejohjhaaW.PrintLast Go.Proofs.YtbfdehkejohjhaaW.PrintMore Go.Proofs.Ytbfdehkejohjhaa.Bv Go.Proofs.Ytbfdehkejohjhaa.QF Go.Proofs.Ytbfdehkejohjhaa.QA
theorem and_or_nat : ∀ n : Nat, ∀ x y : Nat, x < n → (x &&& y) + (x ||| y) = x + y := by
  intro n; induction n with
  | zero => intro x y h; omega
  | succ n ih =>
    intro x y h
    by_cases hx : x = 0
    · subst hx; simp
    have h1 := ih (x / 2) (y / 2) (by omega)
    have e1 : (x &&& y) / 2 = x / 2 &&& y / 2 := Nat.and_div_two
    have e2 : (x ||| y) / 2 = x / 2 ||| y / 2 := Nat.or_div_two
    have e3 : (x &&& y) % 2 + (x ||| y) % 2 = x % 2 + y % 2 := by
      have f1 := Nat.and_mod_two_pow (a := x) (b := y) (n := 1)
      have f2 := Nat.or_mod_two_pow (a := x) (b := y) (n := 1)
      rw [Nat.pow_one] at f1 f2
      rw [f1, f2]
      have g1 : x % 2 = 0 ∨ x % 2 = 1 := by omega
      have g2 : y % 2 = 0 ∨ y % 2 = 1 := by omega
      rcases g1 with g1 | g1 <;> rcases g2 with g2 | g2 <;> rw [g1, g2] <;> rfl
    rw [← e1, ← e2] at h1
    omega
theorem and_or_U (x y : BitVec 64) : (U (x &&& y) + U (x ||| y)) % 18446744073709551616 = (U x + U y) % 18446744073709551616 := by
  have h := and_or_nat (x.toNat + 1) x.toNat y.toNat (by omega)
  unfold U; rw [BitVec.toNat_and, BitVec.toNat_or]; omega
theorem AluPairs : mezzaninelaw21_AluPairs.Pure := by
  intro a b ha hb
  obtain ⟨x, rfl⟩ := U_wf ha; obtain ⟨y, rfl⟩ := U_wf hb
  obtain ⟨a0, a1⟩ := U_range x; obtain ⟨b0, b1⟩ := U_range y
  have v35 : (V 35 0 (U x) (U y) 0).1 = (U x + U y) % 18446744073709551616 := rfl
  have v40 : (V 40 0 (U x) (U y) 0).1 = U (x ^^^ y) := by rw [show (V 40 0 (U x) (U y) 0).1 = Go.bits .xor .u64 (U x) (U y) from rfl, xor_u64, ofInt_U, ofInt_U]
  have v40' : (V 40 0 (U (x ^^^ y)) (U y) 0).1 = U x := by rw [show (V 40 0 (U (x ^^^ y)) (U y) 0).1 = Go.bits .xor .u64 (U (x ^^^ y)) (U y) from rfl, xor_u64, ofInt_U, ofInt_U]; congr 1; rw [BitVec.xor_assoc, BitVec.xor_self, BitVec.xor_zero]
  have v44 : (V 44 0 (U x) (U y) 0).1 = U (x &&& y) := by rw [show (V 44 0 (U x) (U y) 0).1 = Go.bits .and .u64 (U x) (U y) from rfl, and_u64, ofInt_U, ofInt_U]
  have v43 : (V 43 0 (U x) (U y) 0).1 = U (x ||| y) := by rw [show (V 43 0 (U x) (U y) 0).1 = Go.bits .or .u64 (U x) (U y) from rfl, or_u64, ofInt_U, ofInt_U]
  have v38 : (V 38 0 (U x) (U y) 0).1 = o1 (decide (sg (U x) < sg (U y))) := rfl
  have v39 : (V 39 0 (U x) (U y) 0).1 = o1 (decide (U x < U y)) := rfl
  have t0 : 0 ≤ (U x + U y) % 18446744073709551616 := by omega
  have t1 : (U x + U y) % 18446744073709551616 < 18446744073709551616 := by omega
  have v36 : (V 36 0 ((U x + U y) % 18446744073709551616) (U y) 0).1 = U x := by
    rw [show (V 36 0 ((U x + U y) % 18446744073709551616) (U y) 0).1 = ((U x + U y) % 18446744073709551616 - U y) % 18446744073709551616 from rfl]; omega
  have z0 := (U_range (x ^^^ y)).1
  have z1 := (U_range (x ^^^ y)).2
  have o (c : Bool) : (o1 c == 1) = c := by cases c <;> rfl
  refine ⟨30, ?_⟩
  unfold mezzaninelaw21_AluPairs.f
  rw [value_eq 24 35 a0 a1 b0 b1, bsm, v35, value_eq 24 36 t0 t1 b0 b1, bsm, v36, if_pos rfl, value_eq 24 40 a0 a1 b0 b1, bsm, v40, value_eq 24 40 z0 z1 b0 b1, bsm, v40', bne_self_eq_false,
    mezzaninelaw21_AluPairs.j0, if_neg (by decide), value_eq 23 44 a0 a1 b0 b1, bsm, v44, value_eq 23 43 a0 a1 b0 b1, bsm, v43, value_eq 23 35 a0 a1 b0 b1, bsm, v35, IntKind.wrap_u64, if_pos (and_or_U x y),
    value_eq 23 38 a0 a1 b0 b1, bsm, v38, take_eq 7 a0 a1 b0 b1, bsm, value_eq 23 39 a0 a1 b0 b1, bsm, v39, take_eq 9 a0 a1 b0 b1, bsm, o, o,
    show Tk 7 (U x) (U y) = decide (sg (U x) < sg (U y)) from rfl, show Tk 9 (U x) (U y) = decide (U x < U y) from rfl, bne_self_eq_false, if_neg (by decide), bne_self_eq_false,
    mezzaninelaw21_AluPairs.j1, if_neg (by decide), take_eq 7 a0 a1 b0 b1, bsm, take_eq 8 a0 a1 b0 b1, bsm, take_eq 9 a0 a1 b0 b1, bsm, take_eq 10 a0 a1 b0 b1, bsm, take_eq 5 a0 a1 b0 b1, bsm, take_eq 6 a0 a1 b0 b1, bsm,
    show Tk 7 (U x) (U y) = decide (sg (U x) < sg (U y)) from rfl, show Tk 8 (U x) (U y) = !decide (sg (U x) < sg (U y)) from rfl, show Tk 9 (U x) (U y) = decide (U x < U y) from rfl, show Tk 10 (U x) (U y) = !decide (U x < U y) from rfl,
    show Tk 5 (U x) (U y) = decide (U x = U y) from rfl, show Tk 6 (U x) (U y) = !decide (U x = U y) from rfl]
  have nb (c : Bool) : (c == !c) = false := by cases c <;> rfl
  rw [nb, nb, nb, if_neg (by decide), if_neg (by decide), mezzaninelaw21_AluPairs.j2, if_neg (by decide), take_eq 5 a0 a1 b0 b1, bsm, take_eq 7 a0 a1 b0 b1, bsm, take_eq 9 a0 a1 b0 b1, bsm, alu_wakes 21, bsm,
    show Tk 7 (U x) (U y) = decide (sg (U x) < sg (U y)) from rfl, show Tk 9 (U x) (U y) = decide (U x < U y) from rfl, show Tk 5 (U x) (U y) = decide (U x = U y) from rfl]
  by_cases h : U x = U y
  · rw [decide_eq_true h, if_pos rfl, decide_eq_false (by rw [h]; omega), if_neg (by decide), decide_eq_false (by omega), if_neg (by decide)]
  · rw [decide_eq_false h, if_neg (by decide)]
end Go.Proofs.Ytbfdehkejohjhaa.Pure
