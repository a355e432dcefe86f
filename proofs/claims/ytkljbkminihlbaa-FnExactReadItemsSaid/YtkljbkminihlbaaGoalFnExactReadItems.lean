/- The statement over numbers and lists that the law FnExactReadItems comes to. -/
import Derived.Test.YtkljbkminihlbaaQFnExactReadItemsx11
import Derived.Test.YtkljbkminihlbaaPlain
set_option linter.unusedVariables false
namespace Go.Proofs.Ytkljbkminihlbaa.GoalFnExactReadItems
open Go.RowKit Go.Proofs.Ytkljbkminihlbaa.QFnExactReadItems Go.Proofs.YtkljbkminihlbaaW.PrintWords

/-- What is left of the law. -/
def Goal : Prop := ∀ (a0 : ByteArray), a0.size ≤ 140737488351232 → ∃ k, laws_FnExactReadItems.f k a0 = some true
end Go.Proofs.Ytkljbkminihlbaa.GoalFnExactReadItems
