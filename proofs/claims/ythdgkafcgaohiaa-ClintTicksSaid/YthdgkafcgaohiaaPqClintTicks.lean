/- Ticks of n and m are one of both; once the time has come it has, until it goes round: of any numbers. -/
import Derived.Test.YthdgkafcgaohiaaQx4
import Derived.Test.YthdgkafcgaohiaaQClint
set_option linter.unusedSimpArgs false
set_option linter.unusedVariables false
namespace Go.Proofs.Ythdgkafcgaohiaa.Pure
open Go.RowKit Go.Proofs.Ythdgkafcgaohiaa.Q Go.Proofs.YthdgkafcgaohiaaW.PrintWords Go.Proofs.YthdgkafcgaohiaaW.PrintLast Go.Proofs.YthdgkafcgaohiaaW.PrintMore Go.Proofs.Ythdgkafcgaohiaa.Bv Go.Proofs.Ythdgkafcgaohiaa.QC
theorem ClintTicks : mezzaninelaw04_ClintTicks.Pure := by
  intro start cmp n m ws wc wn wm
  obtain ⟨s0, s1⟩ := u64_in ws; obtain ⟨c0, c1⟩ := u64_in wc; obtain ⟨n0, n1⟩ := u64_in wn; obtain ⟨m0, m1⟩ := u64_in wm
  refine ⟨2, ?_, ?_, ?_, ?_⟩
  · rw [write_eq _ _ _ _ _ _ ⟨⟨by decide, by decide⟩, ⟨by decide, by decide⟩, by decide, by decide⟩ s0 s1]; rfl
  · rw [write_eq _ _ _ _ _ _ ⟨⟨by decide, by decide⟩, ⟨by decide, by decide⟩, s0, s1⟩ c0 c1]; rfl
  · simp only [IntKind.wrap_u64]; omega
  · simp only [IntKind.wrap_u64]; omega
end Go.Proofs.Ythdgkafcgaohiaa.Pure
