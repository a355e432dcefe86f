/- The statement over numbers and lists that the law FnExactIsForest comes to. -/
import Derived.Test.YtckndinhkkhonaaQFnExactIsForestx5
import Derived.Test.YtckndinhkkhonaaPlain
set_option linter.unusedVariables false
namespace Go.Proofs.Ytckndinhkkhonaa.GoalFnExactIsForest
open Go.RowKit Go.Proofs.Ytckndinhkkhonaa.QFnExactIsForest Go.Proofs.YtckndinhkkhonaaW.PrintWords

def ok99 (x : S99) : Prop := (Lit.int .i64 x.f0).wf = true ∧ (Lit.int .i64 x.f1).wf = true ∧ (Lit.int .i64 x.f2).wf = true
/-- What is left of the law. -/
def Goal : Prop := ∀ (l0 : List S99) (l1 : List Int), l0.length ≤ maxLen → l0.length * 24 ≤ 140737488351232 → (∀ x ∈ l0, ok99 x) → l1.length ≤ maxLen → l1.length * 8 ≤ 140737488351232 → (∀ x ∈ l1, (Lit.int .i64 x).wf = true) → ∃ k, laws_FnExactIsForest.f k l0 l1 = some true
end Go.Proofs.Ytckndinhkkhonaa.GoalFnExactIsForest
