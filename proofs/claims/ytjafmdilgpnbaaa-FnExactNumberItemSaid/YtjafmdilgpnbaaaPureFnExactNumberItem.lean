/- What the printed program answers at this law is true, for every argument. -/
import Derived.Test.YtjafmdilgpnbaaaPFnExactNumberItemx1
import Derived.Test.YtjafmdilgpnbaaaPlain
set_option linter.unusedVariables false
set_option linter.unusedSimpArgs false
namespace Go.Proofs.Ytjafmdilgpnbaaa.Pure
open Go.RowKit Go.Proofs.Ytjafmdilgpnbaaa.PFnExactNumberItem Go.Proofs.YtjafmdilgpnbaaaW.PrintWords Go.Proofs.YtjafmdilgpnbaaaW.PrintLast Go.Proofs.Ytjafmdilgpnbaaa.Plain

theorem specIn (a b c : Int) : spec_l1In.f a b c = some (decide (b ≤ a ∧ a ≤ c)) := by
  unfold spec_l1In.f
  by_cases h : b ≤ a <;> simp [h]
theorem implWithin (a b c : Int) : impl_within.f a b c = some (decide (b ≤ a ∧ a ≤ c)) := by
  unfold impl_within.f
  by_cases h : b ≤ a <;> simp [h]
theorem specValue (a : Int) : spec_l1Value.f a = some (decide (0 ≤ a ∧ a ≤ 1000000000)) := by
  simp [spec_l1Value.f, specIn]
theorem implValue (a : Int) : impl_isValue.f a = some (decide (0 ≤ a ∧ a ≤ 1000000000)) := by
  simp [impl_isValue.f, implWithin]
theorem FnExactNumberItem : laws_FnExactNumberItem.Pure := by
  intro a h
  simp only [laws_FnExactNumberItem.f, spec_NumberItem.f, impl_NumberItem.f, specValue, implValue, Option.bind_some]
  by_cases hv : 0 ≤ a ∧ a ≤ 1000000000 <;> simp [hv, laws_eqItem.f]

end Go.Proofs.Ytjafmdilgpnbaaa.Pure
