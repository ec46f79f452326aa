/- What an instruction puts into its target is the document's: of any instruction, any numbers. -/
import Derived.Test.YtbfdehkejohjhaaQx12
import Derived.Test.YtbfdehkejohjhaaQAluRef
set_option linter.unusedSimpArgs false
set_option linter.unusedVariables false
namespace Go.Proofs.Ytbfdehkejohjhaa.Pure
open Go.RowKit Go.Proofs.Ytbfdehkejohjhaa.Q Go.Proofs.YtbfdehkejohjhaaW.PrintWords Go.Proofs.YtbfdehkejohjhaaW.PrintLast Go.Proofs.YtbfdehkejohjhaaW.PrintMore Go.Proofs.Ytbfdehkejohjhaa.Bv Go.Proofs.Ytbfdehkejohjhaa.QF Go.Proofs.Ytbfdehkejohjhaa.QA
theorem AluValues : mezzaninelaw21_AluValues.Pure := by
  intro op r p q imm c x y a b pc hop _ _ _ _ _ ha hb hpc
  obtain ⟨a0, a1⟩ := u64_in ha; obtain ⟨b0, b1⟩ := u64_in hb
  refine ⟨70, ?_⟩
  unfold mezzaninelaw21_AluValues.f
  rw [alu_eq 64 op r p q imm c x y a0 a1 b0 b1, bsm, ref_eq 0 op r p q imm c x y a0 a1 b0 b1, bsm, if_pos rfl, if_pos (by simp), alu_wakes 64, bsm]
end Go.Proofs.Ytbfdehkejohjhaa.Pure
