/- Which levels are open. (By a program of this session.) -/
import Derived.Test.YtpbodidpcbodaaaDoorIAsks
import Derived.Test.YtpbodidpcbodaaaDoorQx2
import Derived.Test.YtpbodidpcbodaaaDoorQx1
set_option linter.unusedSimpArgs false
set_option linter.unusedVariables false
namespace Go.Proofs.YtpbodidpcbodaaaDoor.Hx
open Go.Proofs.YtpbodidpcbodaaaDoor.Bv Go.RowKit Go.Proofs.YtpbodidpcbodaaaDoor.Q Go.Proofs.YtpbodidpcbodaaaDoorW.PrintWords Go.Proofs.YtpbodidpcbodaaaDoorW.PrintLast Go.Proofs.YtpbodidpcbodaaaDoorW.PrintMore Go.Proofs.YtpbodidpcbodaaaDoor.Rg

theorem bsm {α β : Type} (a : α) (f : α → Option β) : (some a).bind f = f a := by cases h : f a <;> simp [h]
/-- A register's bit. -/
def onI (v b : Int) : Bool := Go.bits .and .u64 (shr .u64 v b) 1 == 1
theorem on_f (v b : Int) (hb : 0 ≤ b) : irq_on.f v b = some (onI v b) := by unfold irq_on.f; rw [if_pos hb]; rfl
theorem on_c (v b : Int) (w : World) (hb : 0 ≤ b) : Calls Tryd.prog 23 #[.int .u64 v, .int .i64 b] w fun e w' => e = .returned (.bool (onI v b)) ∧ Drawn0 w w' := irq_on.calls v b _ w (on_f v b hb)
/-- Is a level open: the machine's, the host's, the guest's. -/
def openV (h : Ht) (k : Nat) : Bool := match k with
  | 0 => if h.x 33 = 3 then onI (h.x 38) 3 else true
  | 1 => if h.x 33 = 3 then false else if h.v = true then true else if h.x 33 = 0 then true else onI (h.x 38) 1
  | _ => if h.x 33 = 3 then false else if h.v = true then (if h.x 33 = 0 then true else onI (h.x 68) 1) else false
theorem open_f (h : Ht) : irq_open.f (h.x 0) (h.x 1) (h.x 2) (h.x 3) (h.x 4) (h.x 5) (h.x 6) (h.x 7) (h.x 8) (h.x 9) (h.x 10) (h.x 11) (h.x 12) (h.x 13) (h.x 14) (h.x 15) (h.x 16) (h.x 17) (h.x 18) (h.x 19) (h.x 20) (h.x 21) (h.x 22) (h.x 23) (h.x 24) (h.x 25) (h.x 26) (h.x 27) (h.x 28) (h.x 29) (h.x 30) (h.x 31) (h.x 32) (h.x 33) h.v h.wt h.hl (h.x 37) (h.x 38) (h.x 39) (h.x 40) (h.x 41) (h.x 42) (h.x 43) (h.x 44) (h.x 45) (h.x 46) (h.x 47) (h.x 48) (h.x 49) (h.x 50) (h.x 51) (h.x 52) (h.x 53) (h.x 54) (h.x 55) (h.x 56) (h.x 57) (h.x 58) (h.x 59) (h.x 60) (h.x 61) (h.x 62) (h.x 63) (h.x 64) (h.x 65) (h.x 66) (h.x 67) (h.x 68) (h.x 69) (h.x 70) (h.x 71) (h.x 72) (h.x 73) (h.x 74) (h.x 75) (h.x 76) = some (openV h 0, openV h 1, openV h 2) := by
  unfold irq_open.f openV
  rw [on_f _ _ (by decide), on_f _ _ (by decide), on_f _ _ (by decide), bsm, bsm, bsm]
  by_cases h3 : h.x 33 = 3
  · simp only [h3, if_true]
  · by_cases h0 : h.x 33 = 0
    · cases h.v <;> simp [h3, h0]
    · cases h.v <;> simp [h3, h0]
theorem open_c (h : Ht) (w : World) : Calls Tryd.prog 15 #[.agg h.cs] w fun e w' => e = .returned (.agg #[.bool (openV h 0), .bool (openV h 1), .bool (openV h 2)]) ∧ Below w.heap.size w w' := by
  rw [h.cs_lit]
  exact irq_open.calls (h.x 0) (h.x 1) (h.x 2) (h.x 3) (h.x 4) (h.x 5) (h.x 6) (h.x 7) (h.x 8) (h.x 9) (h.x 10) (h.x 11) (h.x 12) (h.x 13) (h.x 14) (h.x 15) (h.x 16) (h.x 17) (h.x 18) (h.x 19) (h.x 20) (h.x 21) (h.x 22) (h.x 23) (h.x 24) (h.x 25) (h.x 26) (h.x 27) (h.x 28) (h.x 29) (h.x 30) (h.x 31) (h.x 32) (h.x 33) h.v h.wt h.hl (h.x 37) (h.x 38) (h.x 39) (h.x 40) (h.x 41) (h.x 42) (h.x 43) (h.x 44) (h.x 45) (h.x 46) (h.x 47) (h.x 48) (h.x 49) (h.x 50) (h.x 51) (h.x 52) (h.x 53) (h.x 54) (h.x 55) (h.x 56) (h.x 57) (h.x 58) (h.x 59) (h.x 60) (h.x 61) (h.x 62) (h.x 63) (h.x 64) (h.x 65) (h.x 66) (h.x 67) (h.x 68) (h.x 69) (h.x 70) (h.x 71) (h.x 72) (h.x 73) (h.x 74) (h.x 75) (h.x 76) _ _ _ w (open_f h)
end Go.Proofs.YtpbodidpcbodaaaDoor.Hx
