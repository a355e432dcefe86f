/- The statement over numbers and lists that the law FnExactCutPiece comes to. -/
import Derived.Test.YtkljbkminihlbaaQFnExactCutPiecex6
import Derived.Test.YtkljbkminihlbaaPlain
set_option linter.unusedVariables false
namespace Go.Proofs.Ytkljbkminihlbaa.GoalFnExactCutPiece
open Go.RowKit Go.Proofs.Ytkljbkminihlbaa.QFnExactCutPiece Go.Proofs.YtkljbkminihlbaaW.PrintWords

/-- What is left of the law. -/
def Goal : Prop := ∀ (a0_0 : Int) (a0_1 : Int) (a0_2 : Bool) (a0_3 : Int) (a0_4 : Int) (a0_5 : Int) (a0_6 : Int) (a0_7 : Int) (a0_8 : Int) (a0_9 : ByteArray) (a1 : Int), (Lit.int .i64 a0_0).wf = true → (Lit.int .i64 a0_1).wf = true → (Lit.int .i64 a0_3).wf = true → (Lit.int .i64 a0_4).wf = true → (Lit.int .i64 a0_5).wf = true → (Lit.int .i64 a0_6).wf = true → (Lit.int .i64 a0_7).wf = true → (Lit.int .i64 a0_8).wf = true → a0_9.size ≤ maxLen → (Lit.int .i64 a1).wf = true → ∃ k, laws_FnExactCutPiece.f k a0_0 a0_1 a0_2 a0_3 a0_4 a0_5 a0_6 a0_7 a0_8 a0_9 a1 = some true
end Go.Proofs.Ytkljbkminihlbaa.GoalFnExactCutPiece
