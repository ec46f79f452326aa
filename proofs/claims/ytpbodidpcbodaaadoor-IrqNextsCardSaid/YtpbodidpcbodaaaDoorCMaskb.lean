/- Masks of single registers. (By a program of this session.) -/
import Derived.Test.YtpbodidpcbodaaaDoorCField
set_option linter.unusedSimpArgs false
set_option linter.unusedVariables false
namespace Go.Proofs.YtpbodidpcbodaaaDoor.Hx
open Go.RowKit Go.Proofs.YtpbodidpcbodaaaDoor.Q Go.Proofs.YtpbodidpcbodaaaDoorW.PrintWords Go.Proofs.YtpbodidpcbodaaaDoorW.PrintLast Go.Proofs.YtpbodidpcbodaaaDoorW.PrintMore Go.Proofs.YtpbodidpcbodaaaDoor.Rg

set_option maxHeartbeats 16000000 in
set_option maxRecDepth 100000 in
theorem mask_medeleg (w : World) : Calls Tryd.prog 28 #[.int .i64 770] w fun e w' => e = .returned (.tuple #[.int .u64 15775743, .int .u64 0]) ∧ w' = w := by
  go_enter Tryd.func28, Tryd.ntmps28
  go_wp2
  go_ret2
  exact ⟨by first | rfl | decide +kernel, rfl⟩
set_option maxHeartbeats 16000000 in
set_option maxRecDepth 100000 in
theorem mask_hideleg (w : World) : Calls Tryd.prog 28 #[.int .i64 1539] w fun e w' => e = .returned (.tuple #[.int .u64 1092, .int .u64 0]) ∧ w' = w := by
  go_enter Tryd.func28, Tryd.ntmps28
  go_wp2
  go_ret2
  exact ⟨by first | rfl | decide +kernel, rfl⟩
set_option maxHeartbeats 16000000 in
set_option maxRecDepth 100000 in
theorem mask_hgeie (w : World) : Calls Tryd.prog 28 #[.int .i64 1543] w fun e w' => e = .returned (.tuple #[.int .u64 2, .int .u64 0]) ∧ w' = w := by
  go_enter Tryd.func28, Tryd.ntmps28
  go_wp2
  go_ret2
  exact ⟨by first | rfl | decide +kernel, rfl⟩
set_option maxHeartbeats 16000000 in
set_option maxRecDepth 100000 in
theorem mask_vsepc (w : World) : Calls Tryd.prog 28 #[.int .i64 577] w fun e w' => e = .returned (.tuple #[.int .u64 18446744073709551612, .int .u64 0]) ∧ w' = w := by
  go_enter Tryd.func28, Tryd.ntmps28
  go_wp2
  go_ret2
  exact ⟨by first | rfl | decide +kernel, rfl⟩
set_option maxHeartbeats 16000000 in
set_option maxRecDepth 100000 in
theorem mask_vstvec (w : World) : Calls Tryd.prog 28 #[.int .i64 517] w fun e w' => e = .returned (.tuple #[.int .u64 18446744073709551613, .int .u64 0]) ∧ w' = w := by
  go_enter Tryd.func28, Tryd.ntmps28
  go_wp2
  go_ret2
  exact ⟨by first | rfl | decide +kernel, rfl⟩
set_option maxHeartbeats 16000000 in
set_option maxRecDepth 100000 in
theorem mask_hcounteren (w : World) : Calls Tryd.prog 28 #[.int .i64 1542] w fun e w' => e = .returned (.tuple #[.int .u64 7, .int .u64 0]) ∧ w' = w := by
  go_enter Tryd.func28, Tryd.ntmps28
  go_wp2
  go_ret2
  exact ⟨by first | rfl | decide +kernel, rfl⟩
set_option maxHeartbeats 16000000 in
set_option maxRecDepth 100000 in
theorem mask_hgatp (w : World) : Calls Tryd.prog 28 #[.int .i64 1664] w fun e w' => e = .returned (.tuple #[.int .u64 17582052945254416380, .int .u64 0]) ∧ w' = w := by
  go_enter Tryd.func28, Tryd.ntmps28
  go_wp2
  go_ret2
  exact ⟨by first | rfl | decide +kernel, rfl⟩
end Go.Proofs.YtpbodidpcbodaaaDoor.Hx
