import Derived.Test.YtaffjcaohbkmoaaQFnExactSegmentsLeftx11
import Derived.Test.YtaffjcaohbkmoaaPlain
set_option linter.unusedVariables false
namespace Go.Proofs.Ytaffjcaohbkmoaa.GoalFnExactSegmentsLeft
open Go.RowKit Go.Proofs.Ytaffjcaohbkmoaa.QFnExactSegmentsLeft Go.Proofs.YtaffjcaohbkmoaaW.PrintWords
def ok96 (x : S96) : Prop := (Lit.int .i64 x.f0).wf = true ∧ (Lit.int .i64 x.f1).wf = true ∧ x.f2.size ≤ maxLen ∧ True ∧ (x.f4.length ≤ maxLen ∧ ∀ y ∈ x.f4, True)
def Goal : Prop := ∀ (a0_0 : ByteArray) (l0_1 : List Bool) (l0_2 : List Bool) (a0_3 : ByteArray) (a0_4 : Bool) (l0_5 : List S96) (l0_6 : List S96), a0_0.size ≤ maxLen → (l0_1.length ≤ maxLen ∧ ∀ x ∈ l0_1, True) → (l0_2.length ≤ maxLen ∧ ∀ x ∈ l0_2, True) → a0_3.size ≤ maxLen → (l0_5.length ≤ maxLen ∧ ∀ x ∈ l0_5, ok96 x) → (l0_6.length ≤ maxLen ∧ ∀ x ∈ l0_6, ok96 x) → ∃ k, laws_FnExactSegmentsLeft.f k a0_0 l0_1 l0_2 a0_3 a0_4 l0_5 l0_6 = some true
end Go.Proofs.Ytaffjcaohbkmoaa.GoalFnExactSegmentsLeft
