/- The chapter's examples hold. -/
import Derived.Test.YtkcgihpnlekfnaaDoorQx5
namespace Go.Proofs.YtkcgihpnlekfnaaDoor.Pure
open Go.RowKit Go.Proofs.YtkcgihpnlekfnaaDoor.Q Go.Proofs.YtkcgihpnlekfnaaDoorW.PrintWords Go.Proofs.YtkcgihpnlekfnaaDoorW.PrintLast Go.Proofs.YtkcgihpnlekfnaaDoorW.PrintMore
theorem BitsKnown : mezzaninelaw01_BitsKnown.Pure := ⟨100, by kernel_rfl⟩
end Go.Proofs.YtkcgihpnlekfnaaDoor.Pure
