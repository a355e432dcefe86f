/- The statement over numbers and lists that the law FnExactTakeHead comes to. -/
import Derived.Test.YtkljbkminihlbaaQFnExactTakeHeadx5
import Derived.Test.YtkljbkminihlbaaPlain
set_option linter.unusedVariables false
namespace Go.Proofs.Ytkljbkminihlbaa.GoalFnExactTakeHead
open Go.RowKit Go.Proofs.Ytkljbkminihlbaa.QFnExactTakeHead Go.Proofs.YtkljbkminihlbaaW.PrintWords

/-- What is left of the law. -/
def Goal : Prop := ∀ (a0 : ByteArray) (a1 : Int), a0.size ≤ 140737488351232 → (Lit.int .i64 a1).wf = true → ∃ k, laws_FnExactTakeHead.f k a0 a1 = some true
end Go.Proofs.Ytkljbkminihlbaa.GoalFnExactTakeHead
