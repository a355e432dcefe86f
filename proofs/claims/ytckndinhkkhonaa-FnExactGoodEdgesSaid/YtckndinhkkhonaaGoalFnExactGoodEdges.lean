/- The statement over numbers and lists that the law FnExactGoodEdges comes to. -/
import Derived.Test.YtckndinhkkhonaaQFnExactGoodEdgesx2
import Derived.Test.YtckndinhkkhonaaPlain
set_option linter.unusedVariables false
namespace Go.Proofs.Ytckndinhkkhonaa.GoalFnExactGoodEdges
open Go.RowKit Go.Proofs.Ytckndinhkkhonaa.QFnExactGoodEdges Go.Proofs.YtckndinhkkhonaaW.PrintWords

def ok99 (x : S99) : Prop := (Lit.int .i64 x.f0).wf = true ∧ (Lit.int .i64 x.f1).wf = true ∧ (Lit.int .i64 x.f2).wf = true
/-- What is left of the law. -/
def Goal : Prop := ∀ (l0 : List S99), l0.length ≤ maxLen → l0.length * 24 ≤ 140737488351232 → (∀ x ∈ l0, ok99 x) → ∃ k, laws_FnExactGoodEdges.f k l0 = some true
end Go.Proofs.Ytckndinhkkhonaa.GoalFnExactGoodEdges
