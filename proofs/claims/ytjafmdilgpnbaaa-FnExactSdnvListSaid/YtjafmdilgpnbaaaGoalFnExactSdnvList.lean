/- The statement over numbers and lists that the law FnExactSdnvList comes to. -/
import Derived.Test.YtjafmdilgpnbaaaPFnExactSdnvListx2
import Derived.Test.YtjafmdilgpnbaaaPlain
set_option linter.unusedVariables false
namespace Go.Proofs.Ytjafmdilgpnbaaa.GoalFnExactSdnvList
open Go.RowKit Go.Proofs.Ytjafmdilgpnbaaa.PFnExactSdnvList Go.Proofs.YtjafmdilgpnbaaaW.PrintWords

/-- What is left of the law. -/
def Goal : Prop := ∀ (l0 : List Int), l0.length ≤ maxLen → l0.length * 8 ≤ 140737488351232 → (∀ x ∈ l0, (Lit.int .i64 x).wf = true) → ∃ k, laws_FnExactSdnvList.f k l0 = some true
end Go.Proofs.Ytjafmdilgpnbaaa.GoalFnExactSdnvList
