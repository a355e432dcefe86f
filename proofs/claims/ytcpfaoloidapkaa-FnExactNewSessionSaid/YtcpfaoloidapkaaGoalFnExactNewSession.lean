/- The statement over numbers and lists that the law FnExactNewSession comes to. -/
import Derived.Test.YtcpfaoloidapkaaQFnExactNewSessionx5
import Derived.Test.YtcpfaoloidapkaaPlain
set_option linter.unusedVariables false
namespace Go.Proofs.Ytcpfaoloidapkaa.GoalFnExactNewSession
open Go.RowKit Go.Proofs.Ytcpfaoloidapkaa.QFnExactNewSession Go.Proofs.YtcpfaoloidapkaaW.PrintWords

/-- What is left of the law. -/
def Goal : Prop := ∀ (a0 : ByteArray), a0.size ≤ 140737488351232 → ∃ k, laws_FnExactNewSession.f k a0 = some true
end Go.Proofs.Ytcpfaoloidapkaa.GoalFnExactNewSession
