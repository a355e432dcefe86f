import Derived.Test.YtaffjcaohbkmoaaDoorProg
import Derived.Below
import Derived.Deep.Draws
import Derived.Deep.AppendLies
import Derived.Maps.AppendAt
import Derived.OwnWalk
import Derived.Laws.BytesArg
import Derived.Laws.MakeOwn
import Derived.Laws.OwnMore
import Derived.Deep.OwnRows
import Derived.Tactics
import Derived.Lib.ConvBytes
import Derived.Laws.Slices
import Derived.WalkKit
import Derived.KernelRfl
import Derived.RowKit3
import Derived.Deep.LoopGhost
import Derived.Deep.QuietTactic
import Derived.BigQuiet
import Derived.WideLaws
import Derived.Deep.DeepCutAuto
import Derived.Deep.CutBlock
import Derived.Deep.RegionHeld3
import Derived.Laws.Rows
import Derived.Lib.AppendStr
import Derived.ArgAppend
import Derived.Laws.IdiomCopy
import Derived.OrdersHeld
import Derived.Laws.BitsLemmas
import Derived.RowKit
import Derived.Test.YtaffjcaohbkmoaaDoorConv
import Derived.Test.YtaffjcaohbkmoaaDoorShelf
import Derived.Lib.SmallJoins
import Derived.Sort.Grow
import Derived.Test.YtaffjcaohbkmoaaDoorWWords
import Derived.Test.YtaffjcaohbkmoaaDoorWLast
import Derived.Test.YtaffjcaohbkmoaaDoorWTab
import Derived.Test.YtaffjcaohbkmoaaDoorWFour
import Derived.Test.YtaffjcaohbkmoaaDoorWQPut
import Derived.Test.YtaffjcaohbkmoaaDoorWApart
import Derived.Test.YtaffjcaohbkmoaaDoorWArr
import Derived.Test.YtaffjcaohbkmoaaDoorWZeros
import Derived.Test.YtaffjcaohbkmoaaDoorWFoot
import Derived.Test.YtaffjcaohbkmoaaDoorWKept
import Derived.Test.YtaffjcaohbkmoaaDoorWShare
import Derived.Test.YtaffjcaohbkmoaaDoorWN
import Derived.Test.YtaffjcaohbkmoaaDoorWFootNe
import Derived.Test.YtaffjcaohbkmoaaDoorWAt
import Derived.Test.YtaffjcaohbkmoaaDoorWEqStruct
import Derived.Test.YtaffjcaohbkmoaaDoorWRepsOne
import Derived.Test.YtaffjcaohbkmoaaDoorWInv
import Derived.Test.YtaffjcaohbkmoaaDoorWInvWords
import Derived.Test.YtaffjcaohbkmoaaDoorWGuard
import Derived.Test.YtaffjcaohbkmoaaDoorWNEv
import Derived.Test.YtaffjcaohbkmoaaDoorWMore
namespace Go.Proofs.YtaffjcaohbkmoaaDoor.QFnLives
open Go.RowKit Go.Proofs.YtaffjcaohbkmoaaDoorW.PrintWords Go.Proofs.YtaffjcaohbkmoaaDoorW.PrintLast Go.Proofs.YtaffjcaohbkmoaaDoorW.PrintMore
attribute [local go_sem] max2_int min2_int max_two min_two max_three min_three max_four min_four   -- for this text's walks alone
set_option linter.unusedVariables false
set_option linter.unusedSimpArgs false
def errW : Option Int → Value
  | none => .nilIface
  | some c => .iface 0 (.int .i64 c)
theorem errW_none : errW none = .nilIface := rfl
theorem errW_some (c : Int) : errW (some c) = .iface 0 (.int .i64 c) := rfl
-- the values' own types
end Go.Proofs.YtaffjcaohbkmoaaDoor.QFnLives
