import Derived.Test.YtckndinhkkhonaaQFnEarliestx10
import Derived.Test.YtckndinhkkhonaaPlain
set_option linter.unusedVariables false
namespace Go.Proofs.Ytckndinhkkhonaa.GoalFnEarliest
open Go.RowKit Go.Proofs.Ytckndinhkkhonaa.QFnEarliest Go.Proofs.YtckndinhkkhonaaW.PrintWords
def Goal : Prop := ∀ (l0 : List Int) (l1 : List Int), l0.length ≤ maxLen → l0.length * 1 ≤ 140737488351232 → (∀ x ∈ l0, (Lit.int .u8 x).wf = true) → l1.length ≤ maxLen → l1.length * 1 ≤ 140737488351232 → (∀ x ∈ l1, (Lit.int .u8 x).wf = true) → ∃ k, laws_FnEarliest.f k l0 l1 = some true
end Go.Proofs.Ytckndinhkkhonaa.GoalFnEarliest
