/- The statement over numbers and lists that the law FnExactUsesOf comes to. -/
import Derived.Test.YtckndinhkkhonaaQFnExactUsesOfx4
import Derived.Test.YtckndinhkkhonaaPlain
set_option linter.unusedVariables false
namespace Go.Proofs.Ytckndinhkkhonaa.GoalFnExactUsesOf
open Go.RowKit Go.Proofs.Ytckndinhkkhonaa.QFnExactUsesOf Go.Proofs.YtckndinhkkhonaaW.PrintWords

def ok75 (x : S75) : Prop := (Lit.int .i64 x.f0).wf = true ∧ (Lit.int .i64 x.f1).wf = true ∧ (Lit.int .i64 x.f2).wf = true ∧ (Lit.int .i64 x.f3).wf = true ∧ (Lit.int .i64 x.f4).wf = true
/-- What is left of the law. -/
def Goal : Prop := ∀ (l0 : List S75) (l1 : List Int), l0.length ≤ maxLen → l0.length * 40 ≤ 140737488351232 → (∀ x ∈ l0, ok75 x) → l1.length ≤ maxLen → l1.length * 8 ≤ 140737488351232 → (∀ x ∈ l1, (Lit.int .i64 x).wf = true) → ∃ k, laws_FnExactUsesOf.f k l0 l1 = some true
end Go.Proofs.Ytckndinhkkhonaa.GoalFnExactUsesOf
