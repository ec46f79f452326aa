/- The value of all but auipc and jumps does not hang on where an instruction stands; jumps lead as far from one place as from another. -/
import Derived.Test.YtbfdehkejohjhaaQx17
import Derived.Test.YtbfdehkejohjhaaQAluJump
set_option linter.unusedSimpArgs false
set_option linter.unusedVariables false
namespace Go.Proofs.Ytbfdehkejohjhaa.Pure
open Go.RowKit Go.Proofs.Ytbfdehkejohjhaa.Q Go.Proofs.YtbfdehkejohjhaaW.PrintWords Go.Proofs.YtbfdehkejohjhaaW.PrintLast Go.Proofs.YtbfdehkejohjhaaW.PrintMore Go.Proofs.Ytbfdehkejohjhaa.Bv Go.Proofs.Ytbfdehkejohjhaa.QF Go.Proofs.Ytbfdehkejohjhaa.QA
theorem place_j1 (k : Nat) (op r p q imm c : Int) (x y : Bool) (a pc by_ : Int) : mezzaninelaw21_AluPlace.j1 (k + 7) a pc by_ op r p q imm c x y = some true := by
  rw [mezzaninelaw21_AluPlace.j1, target_eq (k + 5), bsm, target_eq (k + 5), bsm, alu_wakes k, bsm, IntKind.wrap_u64, IntKind.wrap_u64]
  unfold Tg
  by_cases h : op = 3 ∨ (5 ≤ op ∧ op ≤ 10)
  · rw [if_pos h, if_pos h, if_neg (by simp), if_neg (show ¬op = 4 by omega), if_pos rfl, if_pos (by show ((pc + by_) % 18446744073709551616 + imm) % 18446744073709551616 = ((pc + imm) % 18446744073709551616 + by_) % 18446744073709551616; omega)]
  · rw [if_neg h, if_neg h]
    by_cases h4 : op = 4
    · rw [if_pos h4, if_neg (by simp), if_pos h4, if_pos rfl]
    · rw [if_neg h4, if_neg (by decide), if_neg h4, if_neg (by decide), if_pos rfl]
theorem AluPlace : mezzaninelaw21_AluPlace.Pure := by
  intro op r p q imm c x y a b pc by_ hop _ _ _ _ _ ha hb hpc hby
  obtain ⟨a0, a1⟩ := u64_in ha; obtain ⟨b0, b1⟩ := u64_in hb
  refine ⟨20, ?_⟩
  unfold mezzaninelaw21_AluPlace.f
  have j := place_j1 12 op r p q imm c x y a pc by_
  rw [alu_eq 14 op r p q imm c x y a0 a1 b0 b1, bsm, alu_eq 14 op r p q imm c x y a0 a1 b0 b1, bsm, IntKind.wrap_u64]
  by_cases h1 : op = 1
  · subst h1; rw [show V 1 imm a b ((pc + by_) % 18446744073709551616) = V 1 imm a b pc from rfl, if_neg (by simp), if_neg (by decide), if_neg (by decide), mezzaninelaw21_AluPlace.j0, if_neg (by decide), if_pos rfl, j]
  by_cases h2 : op = 2
  · subst h2
    have e1 : V 2 imm a b pc = ((pc + imm) % 18446744073709551616, true) := rfl
    have e2 : V 2 imm a b ((pc + by_) % 18446744073709551616) = (((pc + by_) % 18446744073709551616 + imm) % 18446744073709551616, true) := rfl
    rw [e1, e2, if_neg (by simp), if_pos rfl, mezzaninelaw21_AluPlace.j0, if_pos (by decide), IntKind.wrap_u64, if_pos (by show ((pc + by_) % 18446744073709551616 + imm) % 18446744073709551616 = ((pc + imm) % 18446744073709551616 + by_) % 18446744073709551616; omega), j]
  have e34 : op = 3 ∨ op = 4 → ∀ z, V op imm a b z = ((z + 4) % 18446744073709551616, true) := by
    intro h z; unfold V; rw [if_neg h1, if_neg h2, if_pos h]
  by_cases h3 : op = 3
  · rw [e34 (Or.inl h3), e34 (Or.inl h3), if_neg (by simp), if_neg h2, if_pos h3, mezzaninelaw21_AluPlace.j0, if_pos (by rw [h3]; rfl), IntKind.wrap_u64, if_pos (by show ((pc + by_) % 18446744073709551616 + 4) % 18446744073709551616 = ((pc + 4) % 18446744073709551616 + by_) % 18446744073709551616; omega), j]
  by_cases h4 : op = 4
  · rw [e34 (Or.inr h4), e34 (Or.inr h4), if_neg (by simp), if_neg h2, if_neg h3, mezzaninelaw21_AluPlace.j0, if_pos (by rw [h4]; rfl), IntKind.wrap_u64, if_pos (by show ((pc + by_) % 18446744073709551616 + 4) % 18446744073709551616 = ((pc + 4) % 18446744073709551616 + by_) % 18446744073709551616; omega), j]
  have e : ∀ z, V op imm a b z = V op imm a b pc := by
    intro z; unfold V; rw [if_neg h1, if_neg h2, if_neg (show ¬(op = 3 ∨ op = 4) by omega), if_neg h1, if_neg h2, if_neg (show ¬(op = 3 ∨ op = 4) by omega)]
  rw [e ((pc + by_) % 18446744073709551616), if_neg (by simp), if_neg h2, if_neg h3, mezzaninelaw21_AluPlace.j0, if_neg (by simp [h4]), if_pos rfl, j]
end Go.Proofs.Ytbfdehkejohjhaa.Pure
