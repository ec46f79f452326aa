/- Where jumps lead, and which branches are taken, as whole numbers. -/
import Derived.Test.YtbfdehkejohjhaaQx11
import Derived.Test.YtbfdehkejohjhaaQx12
import Derived.Test.YtbfdehkejohjhaaQAluRef
set_option linter.unusedSimpArgs false
set_option linter.unusedVariables false
namespace Go.Proofs.Ytbfdehkejohjhaa.QA
open Go.RowKit Go.Proofs.Ytbfdehkejohjhaa.Q Go.Proofs.YtbfdehkejohjhaaW.PrintWords Go.Proofs.YtbfdehkejohjhaaW.PrintLast Go.Proofs.YtbfdehkejohjhaaW.PrintMore Go.Proofs.Ytbfdehkejohjhaa.Bv Go.Proofs.Ytbfdehkejohjhaa.QF
theorem andNot1 {t : Int} (h0 : 0 ≤ t) (h1 : t < 18446744073709551616) : Go.bits .andNot .u64 t 1 = t - t % 2 := by
  obtain ⟨x, rfl⟩ := U_of h0 h1
  rw [andNot_u64, ofInt_U]
  have e : x &&& ~~~ (BitVec.ofInt 64 1) = (x >>> 1) <<< 1 := by
    apply BitVec.eq_of_getLsbD_eq; intro i hi
    have h2 : ∀ i : Fin 64, (BitVec.ofInt 64 1).getLsbD i.val = decide (i.val = 0) := by decide
    rw [BitVec.getLsbD_and, BitVec.getLsbD_not, h2 ⟨i, hi⟩, BitVec.getLsbD_shiftLeft, BitVec.getLsbD_ushiftRight]
    by_cases h0 : i = 0
    · subst h0; simp
    · simp [h0, hi, show ¬ i < 1 by omega, show 1 + (i - 1) = i by omega]
  rw [e]; unfold U
  rw [BitVec.toNat_shiftLeft, BitVec.toNat_ushiftRight, Nat.shiftLeft_eq, Nat.shiftRight_eq_div_pow]
  have := x.isLt
  omega
/-- Where an instruction leads. -/
def Tg (op imm a pc : Int) : Int × Bool :=
  if op = 3 ∨ (5 ≤ op ∧ op ≤ 10) then ((pc + imm) % 18446744073709551616, true)
  else if op = 4 then ((a + imm) % 18446744073709551616 - (a + imm) % 18446744073709551616 % 2, true) else (0, false)
theorem tj0 (k : Nat) (a pc : Int) (t : Bool) (op r p q imm c : Int) (x y : Bool) :
    alu_Target.j0 (k + 1) a pc t op r p q imm c x y = some (if t = true then ((pc + imm) % 18446744073709551616, true) else if op = 4 then ((a + imm) % 18446744073709551616 - (a + imm) % 18446744073709551616 % 2, true) else (0, false)) := by
  rw [alu_Target.j0, IntKind.wrap_u64, IntKind.wrap_u64, IntKind.wrap_u64, andNot1 (by omega) (by omega), show (pc + imm % 18446744073709551616) % 18446744073709551616 = (pc + imm) % 18446744073709551616 by omega,
    show (a + imm % 18446744073709551616) % 18446744073709551616 = (a + imm) % 18446744073709551616 by omega]
  simp only [apply_ite some]
theorem target_eq (k : Nat) (op r p q imm c : Int) (x y : Bool) (a pc : Int) : alu_Target.f (k + 1) op r p q imm c x y a pc = some (Tg op imm a pc) := by
  unfold alu_Target.f Tg
  rw [tj0, tj0, tj0]
  by_cases h3 : op = 3
  · rw [if_pos h3, if_pos (by rw [h3]; rfl), if_pos (Or.inl h3)]
  rw [if_neg h3]
  by_cases h5 : op ≥ 5
  · rw [if_pos h5]
    by_cases h10 : op ≤ 10
    · rw [decide_eq_true h10, if_pos rfl, if_pos (Or.inr ⟨h5, h10⟩)]
    · rw [decide_eq_false h10, if_neg (by decide), if_neg (show ¬(op = 3 ∨ 5 ≤ op ∧ op ≤ 10) by omega)]
  · rw [if_neg h5, if_neg (by decide), if_neg (show ¬(op = 3 ∨ 5 ≤ op ∧ op ≤ 10) by omega)]
theorem rtj0 (k : Nat) (a pc : Int) (u : Int) (t : Bool) (op r p q imm c : Int) (x y : Bool) :
    mezzanineref21_Target.j0 (k + 1) a pc u t op r p q imm c x y = some (if t = true then ((pc + imm) % 18446744073709551616, true) else if u = 4 then ((a + imm) % 18446744073709551616 - (a + imm) % 18446744073709551616 % 2, true) else (0, false)) := by
  rw [mezzanineref21_Target.j0]
  simp only [IntKind.wrap_u64, show (pc + imm % 18446744073709551616) % 18446744073709551616 = (pc + imm) % 18446744073709551616 by omega, show (a + imm % 18446744073709551616) % 18446744073709551616 = (a + imm) % 18446744073709551616 by omega]
  rw [Int.tmod_eq_emod_of_nonneg (by omega), show ((a + imm) % 18446744073709551616 - (a + imm) % 18446744073709551616 % 2) % 18446744073709551616 = (a + imm) % 18446744073709551616 - (a + imm) % 18446744073709551616 % 2 by omega]
  simp only [apply_ite some]
theorem rtarget_eq (k : Nat) (op r p q imm c : Int) (x y : Bool) (a pc : Int) : mezzanineref21_Target.f (k + 1) op r p q imm c x y a pc = some (Tg op imm a pc) := by
  unfold mezzanineref21_Target.f Tg
  simp only [rtj0]
  by_cases h3 : op = 3
  · subst h3; rfl
  by_cases h5 : op = 5
  · subst h5; rfl
  by_cases h6 : op = 6
  · subst h6; rfl
  by_cases h7 : op = 7
  · subst h7; rfl
  by_cases h8 : op = 8
  · subst h8; rfl
  by_cases h9 : op = 9
  · subst h9; rfl
  by_cases h10 : op = 10
  · subst h10; rfl
  rw [if_neg h3, if_neg h5, if_neg h6, if_neg h7, if_neg h8, if_neg h9, if_neg (show ¬((op == 10) = true) by simp [h10]), if_neg (show ¬(op = 3 ∨ 5 ≤ op ∧ op ≤ 10) by omega)]
/-- Which branch is taken. -/
def Tk (op a b : Int) : Bool :=
  if op = 5 then decide (a = b) else if op = 6 then !decide (a = b) else if op = 7 then decide (sg a < sg b) else if op = 8 then !decide (sg a < sg b) else if op = 9 then decide (a < b) else if op = 10 then !decide (a < b) else false
theorem taken_eq (op r p q imm c : Int) (x y : Bool) {a b : Int} (a0 : 0 ≤ a) (a1 : a < 18446744073709551616) (b0 : 0 ≤ b) (b1 : b < 18446744073709551616) : alu_Taken.f op r p q imm c x y a b = some (Tk op a b) := by
  unfold alu_Taken.f Tk
  rw [sg_wrap a0 a1, sg_wrap b0 b1, show (a == b) = decide (a = b) from rfl, show (a != b) = !decide (a = b) from rfl, show decide (sg a ≥ sg b) = !decide (sg a < sg b) by rw [← decide_not, Bool.eq_iff_iff, decide_eq_true_iff, decide_eq_true_iff]; omega,
    show decide (a ≥ b) = !decide (a < b) by rw [← decide_not, Bool.eq_iff_iff, decide_eq_true_iff, decide_eq_true_iff]; omega]
  simp only [apply_ite some]
theorem rtaken_eq (op r p q imm c : Int) (x y : Bool) {a b : Int} (a0 : 0 ≤ a) (a1 : a < 18446744073709551616) (b0 : 0 ≤ b) (b1 : b < 18446744073709551616) : mezzanineref21_Taken.f op r p q imm c x y a b = some (Tk op a b) := by
  unfold mezzanineref21_Taken.f Tk
  rw [less_eq a0 a1 b0 b1, bsm, bsm, show (a == b) = decide (a = b) from rfl, show (a != b) = !decide (a = b) from rfl,
    show decide (b ≤ a) = !decide (a < b) by rw [← decide_not, Bool.eq_iff_iff, decide_eq_true_iff, decide_eq_true_iff]; omega]
  simp only [apply_ite some]
end Go.Proofs.Ytbfdehkejohjhaa.QA
