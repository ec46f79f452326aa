/- Masks of single registers. (By a program of this session.) -/
import Derived.Test.YtpbodidpcbodaaaDoorCField
set_option linter.unusedSimpArgs false
set_option linter.unusedVariables false
namespace Go.Proofs.YtpbodidpcbodaaaDoor.Hx
open Go.RowKit Go.Proofs.YtpbodidpcbodaaaDoor.Q Go.Proofs.YtpbodidpcbodaaaDoorW.PrintWords Go.Proofs.YtpbodidpcbodaaaDoorW.PrintLast Go.Proofs.YtpbodidpcbodaaaDoorW.PrintMore Go.Proofs.YtpbodidpcbodaaaDoor.Rg

set_option maxHeartbeats 16000000 in
set_option maxRecDepth 100000 in
theorem mask_hedeleg (w : World) : Calls Tryd.prog 28 #[.int .i64 1538] w fun e w' => e = .returned (.tuple #[.int .u64 45567, .int .u64 0]) ∧ w' = w := by
  go_enter Tryd.func28, Tryd.ntmps28
  go_wp2
  go_ret2
  exact ⟨by first | rfl | decide +kernel, rfl⟩
set_option maxHeartbeats 16000000 in
set_option maxRecDepth 100000 in
theorem mask_hvip (w : World) : Calls Tryd.prog 28 #[.int .i64 1605] w fun e w' => e = .returned (.tuple #[.int .u64 1092, .int .u64 0]) ∧ w' = w := by
  go_enter Tryd.func28, Tryd.ntmps28
  go_wp2
  go_ret2
  exact ⟨by first | rfl | decide +kernel, rfl⟩
set_option maxHeartbeats 16000000 in
set_option maxRecDepth 100000 in
theorem mask_mepc (w : World) : Calls Tryd.prog 28 #[.int .i64 833] w fun e w' => e = .returned (.tuple #[.int .u64 18446744073709551612, .int .u64 0]) ∧ w' = w := by
  go_enter Tryd.func28, Tryd.ntmps28
  go_wp2
  go_ret2
  exact ⟨by first | rfl | decide +kernel, rfl⟩
set_option maxHeartbeats 16000000 in
set_option maxRecDepth 100000 in
theorem mask_mtvec (w : World) : Calls Tryd.prog 28 #[.int .i64 773] w fun e w' => e = .returned (.tuple #[.int .u64 18446744073709551613, .int .u64 0]) ∧ w' = w := by
  go_enter Tryd.func28, Tryd.ntmps28
  go_wp2
  go_ret2
  exact ⟨by first | rfl | decide +kernel, rfl⟩
set_option maxHeartbeats 16000000 in
set_option maxRecDepth 100000 in
theorem mask_mcounteren (w : World) : Calls Tryd.prog 28 #[.int .i64 774] w fun e w' => e = .returned (.tuple #[.int .u64 7, .int .u64 0]) ∧ w' = w := by
  go_enter Tryd.func28, Tryd.ntmps28
  go_wp2
  go_ret2
  exact ⟨by first | rfl | decide +kernel, rfl⟩
set_option maxHeartbeats 16000000 in
set_option maxRecDepth 100000 in
theorem mask_hstatus (w : World) : Calls Tryd.prog 28 #[.int .i64 1536] w fun e w' => e = .returned (.tuple #[.int .u64 7345088, .int .u64 8589934592]) ∧ w' = w := by
  go_enter Tryd.func28, Tryd.ntmps28
  go_wp2
  go_ret2
  exact ⟨by first | rfl | decide +kernel, rfl⟩
end Go.Proofs.YtpbodidpcbodaaaDoor.Hx
