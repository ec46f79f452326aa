/- Whether a branch is taken, and where it leads, is the document's: of any instruction, any numbers. -/
import Derived.Test.YtbfdehkejohjhaaQx13
import Derived.Test.YtbfdehkejohjhaaQAluJump
set_option linter.unusedSimpArgs false
set_option linter.unusedVariables false
namespace Go.Proofs.Ytbfdehkejohjhaa.Pure
open Go.RowKit Go.Proofs.Ytbfdehkejohjhaa.Q Go.Proofs.YtbfdehkejohjhaaW.PrintWords Go.Proofs.YtbfdehkejohjhaaW.PrintLast Go.Proofs.YtbfdehkejohjhaaW.PrintMore Go.Proofs.Ytbfdehkejohjhaa.Bv Go.Proofs.Ytbfdehkejohjhaa.QF Go.Proofs.Ytbfdehkejohjhaa.QA
theorem AluJumps : mezzaninelaw21_AluJumps.Pure := by
  intro op r p q imm c x y a b pc hop _ _ _ _ _ ha hb hpc
  obtain ⟨a0, a1⟩ := u64_in ha; obtain ⟨b0, b1⟩ := u64_in hb
  refine ⟨70, ?_⟩
  unfold mezzaninelaw21_AluJumps.f
  rw [target_eq 69, bsm, rtarget_eq 69, bsm, if_pos rfl, if_pos (by simp), taken_eq op r p q imm c x y a0 a1 b0 b1, bsm, rtaken_eq op r p q imm c x y a0 a1 b0 b1, bsm, if_pos (by simp), alu_wakes 64, bsm]
end Go.Proofs.Ytbfdehkejohjhaa.Pure
