import Derived.Test.YtaffjcaohbkmoaaDoorQFnLivesx7
import Derived.Test.YtaffjcaohbkmoaaDoorPlain
set_option linter.unusedVariables false
namespace Go.Proofs.YtaffjcaohbkmoaaDoor.GoalFnLives
open Go.RowKit Go.Proofs.YtaffjcaohbkmoaaDoor.QFnLives Go.Proofs.YtaffjcaohbkmoaaDoorW.PrintWords
def Goal : Prop := ∀ (l0 : List Int) (l1 : List Int), l0.length ≤ maxLen → l0.length * 1 ≤ 140737488351232 → (∀ x ∈ l0, (Lit.int .u8 x).wf = true) → l1.length ≤ maxLen → l1.length * 1 ≤ 140737488351232 → (∀ x ∈ l1, (Lit.int .u8 x).wf = true) → ∃ k, laws_FnLives.f k l0 l1 = some true
end Go.Proofs.YtaffjcaohbkmoaaDoor.GoalFnLives
