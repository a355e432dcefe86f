import Derived.Test.YtlkbbolkadkedaaQFnExactAddPiecex14
import Derived.Test.YtlkbbolkadkedaaPlain
set_option linter.unusedVariables false
namespace Go.Proofs.Ytlkbbolkadkedaa.GoalFnExactAddPiece
open Go.RowKit Go.Proofs.Ytlkbbolkadkedaa.QFnExactAddPiece Go.Proofs.YtlkbbolkadkedaaW.PrintWords
def ok42 (x : S42) : Prop := (Lit.int .i64 x.f0).wf = true ∧ (Lit.int .i64 x.f1).wf = true ∧ True ∧ (Lit.int .i64 x.f3).wf = true ∧ (Lit.int .i64 x.f4).wf = true ∧ (Lit.int .i64 x.f5).wf = true ∧ (Lit.int .i64 x.f6).wf = true ∧ (Lit.int .i64 x.f7).wf = true ∧ (Lit.int .i64 x.f8).wf = true ∧ x.f9.size ≤ maxLen
def Goal : Prop := ∀ (l0_0 : List S42) (a1_0 : Int) (a1_1 : Int) (a1_2 : Bool) (a1_3 : Int) (a1_4 : Int) (a1_5 : Int) (a1_6 : Int) (a1_7 : Int) (a1_8 : Int) (a1_9 : ByteArray), (l0_0.length ≤ maxLen ∧ ∀ x ∈ l0_0, ok42 x) → (Lit.int .i64 a1_0).wf = true → (Lit.int .i64 a1_1).wf = true → (Lit.int .i64 a1_3).wf = true → (Lit.int .i64 a1_4).wf = true → (Lit.int .i64 a1_5).wf = true → (Lit.int .i64 a1_6).wf = true → (Lit.int .i64 a1_7).wf = true → (Lit.int .i64 a1_8).wf = true → a1_9.size ≤ maxLen → ∃ k, laws_FnExactAddPiece.f k l0_0 a1_0 a1_1 a1_2 a1_3 a1_4 a1_5 a1_6 a1_7 a1_8 a1_9 = some true
end Go.Proofs.Ytlkbbolkadkedaa.GoalFnExactAddPiece
