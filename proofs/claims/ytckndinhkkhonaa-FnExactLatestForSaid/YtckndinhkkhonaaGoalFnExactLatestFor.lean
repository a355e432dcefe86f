/- The statement over numbers and lists that the law FnExactLatestFor comes to. -/
import Derived.Test.YtckndinhkkhonaaQFnExactLatestForx6
import Derived.Test.YtckndinhkkhonaaPlain
set_option linter.unusedVariables false
namespace Go.Proofs.Ytckndinhkkhonaa.GoalFnExactLatestFor
open Go.RowKit Go.Proofs.Ytckndinhkkhonaa.QFnExactLatestFor Go.Proofs.YtckndinhkkhonaaW.PrintWords

def ok75 (x : S75) : Prop := (Lit.int .i64 x.f0).wf = true ∧ (Lit.int .i64 x.f1).wf = true ∧ (Lit.int .i64 x.f2).wf = true ∧ (Lit.int .i64 x.f3).wf = true ∧ (Lit.int .i64 x.f4).wf = true
/-- What is left of the law. -/
def Goal : Prop := ∀ (l0 : List S75) (a1 : Int) (a2 : Int) (a3 : Int), l0.length ≤ maxLen → l0.length * 40 ≤ 140737488351232 → (∀ x ∈ l0, ok75 x) → (Lit.int .i64 a1).wf = true → (Lit.int .i64 a2).wf = true → (Lit.int .i64 a3).wf = true → ∃ k, laws_FnExactLatestFor.f k l0 a1 a2 a3 = some true
end Go.Proofs.Ytckndinhkkhonaa.GoalFnExactLatestFor
