import Derived.Test.YtcpfaoloidapkaaWWords
import Derived.ChangeArms
import Derived.ChangeSlices
import Derived.ChangeOld
import Derived.SizedLaws
import Derived.WideShapes
import Derived.ProofKit
set_option linter.unusedVariables false
set_option linter.unusedSimpArgs false
namespace Go.Proofs.Ytcpfaoloidapkaa.Opens
open Go.RowKit Go.Proofs.YtcpfaoloidapkaaW.PrintWords Go.ChangeShapes Go.WideShapes
structure Opens {α : Type} (P : Program) (t : TypeId) (d : Kd α) (ok : α → Prop) : Prop where
  mk ::
  cells : P.cellsOf t = d.sz
  go : ∀ {H : Type} {enc : TypeId × Value → H} {w : World} {base : Nat} {spare : Nat → Bool} {held : Bool} {fuel : Nat} {cs : List Value} {x : DataW H × List MemPlace},
    DataW.trod enc P w base spare held fuel t cs = some x → ∃ y : α, d.K w y cs ∧ ok y
structure OpensAt {α : Type} (P : Program) (fs : List Field) (off : Nat) (d : Kd α) (ok : α → Prop) : Prop where
  go : ∀ {H : Type} {enc : TypeId × Value → H} {w : World} {base : Nat} {spare : Nat → Bool} {held : Bool} {fuel : Nat} {cs : List Value}, cs.length = off + d.sz →
    (∀ f ∈ fs, ∃ y, DataW.trod enc P w base spare held fuel f.type ((cs.drop f.offset).take (P.cellsOf f.type)) = some y) → ∃ y : α, d.K w y (cs.drop off) ∧ ok y
section
variable {H : Type} {enc : TypeId × Value → H} {P : Program} {W : World} {base : Nat} {spare : Nat → Bool} {held : Bool} {t : TypeId}
theorem trod_places {v : Value} {x : DataW H} {ps : List MemPlace} (hv : DataW.Trod enc P W base spare held t v x ps) : ∀ p ∈ ps, p.block < W.heap.size := by
  obtain ⟨fuel, hf⟩ := hv
  exact DataW.trod_lt fuel _ _ _ hf
end
end Go.Proofs.Ytcpfaoloidapkaa.Opens
