/- The statement over numbers and lists that the law FnExactSameBundle comes to. -/
import Derived.Test.YtaffjcaohbkmoaaDoorQFnExactSameBundlex5
import Derived.Test.YtaffjcaohbkmoaaDoorPlain
set_option linter.unusedVariables false
namespace Go.Proofs.YtaffjcaohbkmoaaDoor.GoalFnExactSameBundle
open Go.RowKit Go.Proofs.YtaffjcaohbkmoaaDoor.QFnExactSameBundle Go.Proofs.YtaffjcaohbkmoaaDoorW.PrintWords

/-- What is left of the law. -/
def Goal : Prop := ∀ (a0_0 : Int) (a0_1 : Int) (a0_2 : Bool) (a0_3 : Int) (a0_4 : Int) (a0_5 : Int) (a0_6 : Int) (a0_7 : Int) (a0_8 : Int) (a0_9 : ByteArray) (a1_0 : Int) (a1_1 : Int) (a1_2 : Bool) (a1_3 : Int) (a1_4 : Int) (a1_5 : Int) (a1_6 : Int) (a1_7 : Int) (a1_8 : Int) (a1_9 : ByteArray), (Lit.int .i64 a0_0).wf = true → (Lit.int .i64 a0_1).wf = true → (Lit.int .i64 a0_3).wf = true → (Lit.int .i64 a0_4).wf = true → (Lit.int .i64 a0_5).wf = true → (Lit.int .i64 a0_6).wf = true → (Lit.int .i64 a0_7).wf = true → (Lit.int .i64 a0_8).wf = true → a0_9.size ≤ maxLen → (Lit.int .i64 a1_0).wf = true → (Lit.int .i64 a1_1).wf = true → (Lit.int .i64 a1_3).wf = true → (Lit.int .i64 a1_4).wf = true → (Lit.int .i64 a1_5).wf = true → (Lit.int .i64 a1_6).wf = true → (Lit.int .i64 a1_7).wf = true → (Lit.int .i64 a1_8).wf = true → a1_9.size ≤ maxLen → ∃ k, laws_FnExactSameBundle.f k a0_0 a0_1 a0_2 a0_3 a0_4 a0_5 a0_6 a0_7 a0_8 a0_9 a1_0 a1_1 a1_2 a1_3 a1_4 a1_5 a1_6 a1_7 a1_8 a1_9 = some true
end Go.Proofs.YtaffjcaohbkmoaaDoor.GoalFnExactSameBundle
