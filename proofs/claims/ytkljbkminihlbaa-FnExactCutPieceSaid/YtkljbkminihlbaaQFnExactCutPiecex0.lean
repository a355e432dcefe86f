/- Each Go function that a law reaches as a plain Lean function, and the proof that the Go code comes to just its answers. Written by a program of this work. -/
import Derived.Test.YtkljbkminihlbaaProg
import Derived.Below
import Derived.Deep.Draws
import Derived.Deep.AppendLies
import Derived.Maps.AppendAt
import Derived.OwnWalk
import Derived.Laws.BytesArg
import Derived.Laws.MakeOwn
import Derived.Laws.OwnMore
import Derived.Deep.OwnRows
import Derived.Tactics
import Derived.Lib.ConvBytes
import Derived.Laws.Slices
import Derived.WalkKit
import Derived.KernelRfl
import Derived.RowKit3
import Derived.Deep.LoopGhost
import Derived.Deep.QuietTactic
import Derived.BigQuiet
import Derived.WideLaws
import Derived.Deep.DeepCutAuto
import Derived.Deep.CutBlock
import Derived.Deep.RegionHeld3
import Derived.Laws.Rows
import Derived.Lib.AppendStr
import Derived.ArgAppend
import Derived.Laws.IdiomCopy
import Derived.OrdersHeld
import Derived.Laws.BitsLemmas
import Derived.RowKit
import Derived.Test.YtkljbkminihlbaaConv
import Derived.Test.YtkljbkminihlbaaWWords
import Derived.Test.YtkljbkminihlbaaWLast
import Derived.Test.YtkljbkminihlbaaWTab
import Derived.Test.YtkljbkminihlbaaWFour
import Derived.Test.YtkljbkminihlbaaWQPut
import Derived.Test.YtkljbkminihlbaaWApart
import Derived.Test.YtkljbkminihlbaaWArr
import Derived.Test.YtkljbkminihlbaaWZeros
import Derived.Test.YtkljbkminihlbaaWFoot
import Derived.Test.YtkljbkminihlbaaWKept
import Derived.Test.YtkljbkminihlbaaWShare
import Derived.Test.YtkljbkminihlbaaWN
import Derived.Test.YtkljbkminihlbaaWFootNe
import Derived.Test.YtkljbkminihlbaaWAt
import Derived.Test.YtkljbkminihlbaaWEqStruct
import Derived.Test.YtkljbkminihlbaaWRepsOne
import Derived.Test.YtkljbkminihlbaaWInv
import Derived.Test.YtkljbkminihlbaaWInvWords
import Derived.Test.YtkljbkminihlbaaWGuard
import Derived.Test.YtkljbkminihlbaaWNEv
import Derived.Test.YtkljbkminihlbaaWMore
namespace Go.Proofs.Ytkljbkminihlbaa.QFnExactCutPiece
open Go.RowKit Go.Proofs.YtkljbkminihlbaaW.PrintWords Go.Proofs.YtkljbkminihlbaaW.PrintLast Go.Proofs.YtkljbkminihlbaaW.PrintMore
attribute [local go_sem] max2_int min2_int max_two min_two max_three min_three max_four min_four   -- for this text's walks alone
set_option linter.unusedVariables false
set_option linter.unusedSimpArgs false



def errW : Option Int → Value
  | none => .nilIface
  | some c => .iface 0 (.int .i64 c)
theorem errW_none : errW none = .nilIface := rfl
theorem errW_some (c : Int) : errW (some c) = .iface 0 (.int .i64 c) := rfl

-- the values' own types

end Go.Proofs.Ytkljbkminihlbaa.QFnExactCutPiece
