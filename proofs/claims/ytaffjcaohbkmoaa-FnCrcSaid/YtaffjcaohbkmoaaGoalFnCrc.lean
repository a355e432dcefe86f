/- The statement over numbers and lists that the law FnCrc comes to. -/
import Derived.Test.YtaffjcaohbkmoaaQFnCrcx3
import Derived.Test.YtaffjcaohbkmoaaPlain
set_option linter.unusedVariables false
namespace Go.Proofs.Ytaffjcaohbkmoaa.GoalFnCrc
open Go.RowKit Go.Proofs.Ytaffjcaohbkmoaa.QFnCrc Go.Proofs.YtaffjcaohbkmoaaW.PrintWords

/-- What is left of the law. -/
def Goal : Prop := ∀ (l0 : List Int) (l1 : List Int), l0.length ≤ maxLen → l0.length * 1 ≤ 140737488351232 → (∀ x ∈ l0, (Lit.int .u8 x).wf = true) → l1.length ≤ maxLen → l1.length * 1 ≤ 140737488351232 → (∀ x ∈ l1, (Lit.int .u8 x).wf = true) → ∃ k, laws_FnCrc.f k l0 l1 = some true
end Go.Proofs.Ytaffjcaohbkmoaa.GoalFnCrc
