/- The statement over numbers and lists that the law FnExactItemsBytes comes to. -/
import Derived.Test.YtkljbkminihlbaaQFnExactItemsBytesx5
import Derived.Test.YtkljbkminihlbaaPlain
set_option linter.unusedVariables false
namespace Go.Proofs.Ytkljbkminihlbaa.GoalFnExactItemsBytes
open Go.RowKit Go.Proofs.Ytkljbkminihlbaa.QFnExactItemsBytes Go.Proofs.YtkljbkminihlbaaW.PrintWords

def ok86 (x : S86) : Prop := (Lit.int .i64 x.f0).wf = true ∧ (Lit.int .i64 x.f1).wf = true ∧ x.f2.size ≤ maxLen ∧ (Lit.int .i64 x.f3).wf = true
/-- What is left of the law. -/
def Goal : Prop := ∀ (l0 : List S86), l0.length ≤ maxLen → l0.length * 40 ≤ 140737488351232 → (∀ x ∈ l0, ok86 x) → ∃ k, laws_FnExactItemsBytes.f k l0 = some true
end Go.Proofs.Ytkljbkminihlbaa.GoalFnExactItemsBytes
