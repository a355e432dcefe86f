import Derived.Test.YtlkbbolkadkedaaQFnExactWholeOfx14
import Derived.Test.YtlkbbolkadkedaaPlain
set_option linter.unusedVariables false
namespace Go.Proofs.Ytlkbbolkadkedaa.GoalFnExactMissingIn
open Go.RowKit Go.Proofs.Ytlkbbolkadkedaa.QFnExactWholeOf Go.Proofs.YtlkbbolkadkedaaW.PrintWords
def ok42 (x : S42) : Prop := (Lit.int .i64 x.f0).wf = true ∧ (Lit.int .i64 x.f1).wf = true ∧ True ∧ (Lit.int .i64 x.f3).wf = true ∧ (Lit.int .i64 x.f4).wf = true ∧ (Lit.int .i64 x.f5).wf = true ∧ (Lit.int .i64 x.f6).wf = true ∧ (Lit.int .i64 x.f7).wf = true ∧ (Lit.int .i64 x.f8).wf = true ∧ x.f9.size ≤ maxLen
def Goal : Prop := ∀ (l0_0 : List S42), (l0_0.length ≤ maxLen ∧ ∀ x ∈ l0_0, ok42 x) → ∃ k, laws_FnExactMissingIn.f k l0_0 = some true
end Go.Proofs.Ytlkbbolkadkedaa.GoalFnExactMissingIn
