/- Entries made, their pages, whether they are well formed, and leaves, are the document's. -/
import Derived.Test.YteebgfcihoidmaaRQx4
import Derived.Test.YteebgfcihoidmaaRQPte
set_option linter.unusedSimpArgs false
set_option linter.unusedVariables false
namespace Go.Proofs.YteebgfcihoidmaaR.Pure
open Go.RowKit Go.Proofs.YteebgfcihoidmaaR.Q Go.Proofs.YteebgfcihoidmaaRW.PrintWords Go.Proofs.YteebgfcihoidmaaRW.PrintLast Go.Proofs.YteebgfcihoidmaaRW.PrintMore Go.Proofs.YteebgfcihoidmaaR.Bv Go.Proofs.YteebgfcihoidmaaR.QF
theorem rmake_eq (p f : Nat) : mezzanineref15_Make.f (p : Int) (f : Int) = some ((p % 17592186044416 * 1024 + f % 256 : Nat) : Int) := by
  unfold mezzanineref15_Make.f
  rw [Int.tmod_eq_emod_of_nonneg (by omega), Int.tmod_eq_emod_of_nonneg (by omega), IntKind.wrap_u64, IntKind.wrap_u64]; congr 1; omega
theorem PteParts : mezzaninelaw15_PteParts.Pure := by
  intro e p f he hp hf
  obtain ⟨x, rfl⟩ := U_wf he
  obtain ⟨p0, p1⟩ := u64_in hp; obtain ⟨f0, f1⟩ := u64_in hf
  obtain ⟨p, rfl⟩ := Int.eq_ofNat_of_zero_le p0
  obtain ⟨f, rfl⟩ := Int.eq_ofNat_of_zero_le f0
  refine ⟨6, ?_⟩
  unfold mezzaninelaw15_PteParts.f
  rw [of_eq, bsm, pte_awake 1, bsm, if_pos rfl, make_nat p f (by omega) (by omega), bsm, rmake_eq, bsm, if_pos rfl, page_eq, bsm, if_pos rfl, ok_eq x 5, bsm, rok_eq, bsm, if_pos (by simp), leaf_eq, bsm, rleaf_eq, bsm]
  simp
end Go.Proofs.YteebgfcihoidmaaR.Pure
