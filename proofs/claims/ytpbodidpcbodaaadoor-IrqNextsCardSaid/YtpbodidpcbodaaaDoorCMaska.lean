/- Masks of single registers. (By a program of this session.) -/
import Derived.Test.YtpbodidpcbodaaaDoorCField
set_option linter.unusedSimpArgs false
set_option linter.unusedVariables false
namespace Go.Proofs.YtpbodidpcbodaaaDoor.Hx
open Go.RowKit Go.Proofs.YtpbodidpcbodaaaDoor.Q Go.Proofs.YtpbodidpcbodaaaDoorW.PrintWords Go.Proofs.YtpbodidpcbodaaaDoorW.PrintLast Go.Proofs.YtpbodidpcbodaaaDoorW.PrintMore Go.Proofs.YtpbodidpcbodaaaDoor.Rg

set_option maxHeartbeats 16000000 in
set_option maxRecDepth 100000 in
theorem mask_mstatus (w : World) : Calls Tryd.prog 28 #[.int .i64 768] w fun e w' => e = .returned (.tuple #[.int .u64 824641984938, .int .u64 42949672960]) ∧ w' = w := by
  go_enter Tryd.func28, Tryd.ntmps28
  go_wp2
  go_ret2
  exact ⟨by first | rfl | decide +kernel, rfl⟩
set_option maxHeartbeats 16000000 in
set_option maxRecDepth 100000 in
theorem mask_mideleg (w : World) : Calls Tryd.prog 28 #[.int .i64 771] w fun e w' => e = .returned (.tuple #[.int .u64 546, .int .u64 5188]) ∧ w' = w := by
  go_enter Tryd.func28, Tryd.ntmps28
  go_wp2
  go_ret2
  exact ⟨by first | rfl | decide +kernel, rfl⟩
set_option maxHeartbeats 16000000 in
set_option maxRecDepth 100000 in
theorem mask_mie (w : World) : Calls Tryd.prog 28 #[.int .i64 772] w fun e w' => e = .returned (.tuple #[.int .u64 7918, .int .u64 0]) ∧ w' = w := by
  go_enter Tryd.func28, Tryd.ntmps28
  go_wp2
  go_ret2
  exact ⟨by first | rfl | decide +kernel, rfl⟩
set_option maxHeartbeats 16000000 in
set_option maxRecDepth 100000 in
theorem mask_sepc (w : World) : Calls Tryd.prog 28 #[.int .i64 321] w fun e w' => e = .returned (.tuple #[.int .u64 18446744073709551612, .int .u64 0]) ∧ w' = w := by
  go_enter Tryd.func28, Tryd.ntmps28
  go_wp2
  go_ret2
  exact ⟨by first | rfl | decide +kernel, rfl⟩
set_option maxHeartbeats 16000000 in
set_option maxRecDepth 100000 in
theorem mask_stvec (w : World) : Calls Tryd.prog 28 #[.int .i64 261] w fun e w' => e = .returned (.tuple #[.int .u64 18446744073709551613, .int .u64 0]) ∧ w' = w := by
  go_enter Tryd.func28, Tryd.ntmps28
  go_wp2
  go_ret2
  exact ⟨by first | rfl | decide +kernel, rfl⟩
set_option maxHeartbeats 16000000 in
set_option maxRecDepth 100000 in
theorem mask_scounteren (w : World) : Calls Tryd.prog 28 #[.int .i64 262] w fun e w' => e = .returned (.tuple #[.int .u64 7, .int .u64 0]) ∧ w' = w := by
  go_enter Tryd.func28, Tryd.ntmps28
  go_wp2
  go_ret2
  exact ⟨by first | rfl | decide +kernel, rfl⟩
set_option maxHeartbeats 16000000 in
set_option maxRecDepth 100000 in
theorem mask_vsstatus (w : World) : Calls Tryd.prog 28 #[.int .i64 512] w fun e w' => e = .returned (.tuple #[.int .u64 786722, .int .u64 8589934592]) ∧ w' = w := by
  go_enter Tryd.func28, Tryd.ntmps28
  go_wp2
  go_ret2
  exact ⟨by first | rfl | decide +kernel, rfl⟩
end Go.Proofs.YtpbodidpcbodaaaDoor.Hx
