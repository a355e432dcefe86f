/- The statement over numbers and lists that the law FnExactIdOf comes to. -/
import Derived.Test.YtaffjcaohbkmoaaDoorQFnExactIdOfx3
import Derived.Test.YtaffjcaohbkmoaaDoorPlain
set_option linter.unusedVariables false
namespace Go.Proofs.YtaffjcaohbkmoaaDoor.GoalFnExactIdOf
open Go.RowKit Go.Proofs.YtaffjcaohbkmoaaDoor.QFnExactIdOf Go.Proofs.YtaffjcaohbkmoaaDoorW.PrintWords

/-- What is left of the law. -/
def Goal : Prop := ∀ (a0_0 : Int) (a0_1 : Int) (a0_2 : Bool) (a0_3 : Int) (a0_4 : Int) (a0_5 : Int) (a0_6 : Int) (a0_7 : Int) (a0_8 : Int) (a0_9 : ByteArray), (Lit.int .i64 a0_0).wf = true → (Lit.int .i64 a0_1).wf = true → (Lit.int .i64 a0_3).wf = true → (Lit.int .i64 a0_4).wf = true → (Lit.int .i64 a0_5).wf = true → (Lit.int .i64 a0_6).wf = true → (Lit.int .i64 a0_7).wf = true → (Lit.int .i64 a0_8).wf = true → a0_9.size ≤ maxLen → ∃ k, laws_FnExactIdOf.f k a0_0 a0_1 a0_2 a0_3 a0_4 a0_5 a0_6 a0_7 a0_8 a0_9 = some true
end Go.Proofs.YtaffjcaohbkmoaaDoor.GoalFnExactIdOf
