/- What is known of entries. -/
import Derived.Test.YteebgfcihoidmaaRQx13
import Derived.Test.YteebgfcihoidmaaRQPte
set_option linter.unusedSimpArgs false
set_option linter.unusedVariables false
namespace Go.Proofs.YteebgfcihoidmaaR.Pure
open Go.RowKit Go.Proofs.YteebgfcihoidmaaR.Q Go.Proofs.YteebgfcihoidmaaRW.PrintWords Go.Proofs.YteebgfcihoidmaaRW.PrintLast Go.Proofs.YteebgfcihoidmaaRW.PrintMore Go.Proofs.YteebgfcihoidmaaR.Bv Go.Proofs.YteebgfcihoidmaaR.QF
theorem PteKnown : mezzaninelaw15_PteKnown.Pure := ⟨20, by kernel_rfl⟩
end Go.Proofs.YteebgfcihoidmaaR.Pure
