/- Where the Lean function of a Go function gives a value, the Go call returns that value and changes nothing that was there: for every input. (By a program of this session, and by hand.) -/
import Derived.Test.YtkcgihpnlekfnaaDoorProg
import Derived.Test.YtkcgihpnlekfnaaDoorArr
import Derived.Below
import Derived.Deep.Draws
import Derived.Deep.AppendLies
import Derived.Maps.AppendAt
import Derived.OwnWalk
import Derived.Laws.BytesArg
import Derived.Laws.MakeOwn
import Derived.Laws.OwnMore
import Derived.Deep.OwnRows
import Derived.Tactics
import Derived.Lib.ConvBytes
import Derived.Laws.Slices
import Derived.WalkKit
import Derived.KernelRfl
import Derived.RowKit3
import Derived.Deep.LoopGhost
import Derived.Deep.QuietTactic
import Derived.BigQuiet
import Derived.WideLaws
import Derived.Deep.DeepCutAuto
import Derived.Deep.CutBlock
import Derived.Deep.RegionHeld3
import Derived.Laws.Rows
import Derived.Lib.AppendStr
import Derived.ArgAppend
import Derived.Laws.IdiomCopy
import Derived.OrdersHeld
import Derived.Laws.BitsLemmas
import Derived.RowKit
import Derived.Lib.TrailingZeros
import Derived.Test.YtkcgihpnlekfnaaDoorWWords
import Derived.Test.YtkcgihpnlekfnaaDoorWLast
import Derived.Test.YtkcgihpnlekfnaaDoorWTab
import Derived.Test.YtkcgihpnlekfnaaDoorWFour
import Derived.Test.YtkcgihpnlekfnaaDoorWQPut
import Derived.Test.YtkcgihpnlekfnaaDoorWApart
import Derived.Test.YtkcgihpnlekfnaaDoorWArr
import Derived.Test.YtkcgihpnlekfnaaDoorWZeros
import Derived.Test.YtkcgihpnlekfnaaDoorWFoot
import Derived.Test.YtkcgihpnlekfnaaDoorWKept
import Derived.Test.YtkcgihpnlekfnaaDoorWShare
import Derived.Test.YtkcgihpnlekfnaaDoorWN
import Derived.Test.YtkcgihpnlekfnaaDoorWFootNe
import Derived.Test.YtkcgihpnlekfnaaDoorWAt
import Derived.Test.YtkcgihpnlekfnaaDoorWEqStruct
import Derived.Test.YtkcgihpnlekfnaaDoorWRepsOne
import Derived.Test.YtkcgihpnlekfnaaDoorWInv
import Derived.Test.YtkcgihpnlekfnaaDoorWInvWords
import Derived.Test.YtkcgihpnlekfnaaDoorWGuard
import Derived.Test.YtkcgihpnlekfnaaDoorWNEv
import Derived.Test.YtkcgihpnlekfnaaDoorWMore
namespace Go.Proofs.YtkcgihpnlekfnaaDoor.Q
open Go.RowKit Go.Proofs.YtkcgihpnlekfnaaDoorW.PrintWords Go.Proofs.YtkcgihpnlekfnaaDoorW.PrintLast Go.Proofs.YtkcgihpnlekfnaaDoorW.PrintMore
attribute [local go_sem] max2_int min2_int max_two min_two max_three min_three max_four min_four   -- for this text's walks alone
set_option linter.unusedVariables false
set_option linter.unusedSimpArgs false



def errW : Option Int → Value
  | none => .nilIface
  | some c => .iface 0 (.int .i64 c)
theorem errW_none : errW none = .nilIface := rfl
theorem errW_some (c : Int) : errW (some c) = .iface 0 (.int .i64 c) := rfl

theorem info3 : (Tryd.prog.info? 3).map (fun i => (i.zero, i.size, i.bytes)) = some (some (.int .i64 0), 1, 8) := by kernel_rfl
-- the values' own types

end Go.Proofs.YtkcgihpnlekfnaaDoor.Q
